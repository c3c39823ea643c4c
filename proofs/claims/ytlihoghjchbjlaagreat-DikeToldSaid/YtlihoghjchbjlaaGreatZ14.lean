/- DikeTold: a step is undone; a witness. -/
import Derived.Test.YtlihoghjchbjlaaGreatZ13
import Derived.Test.YtlihoghjchbjlaaGreatZ12
set_option linter.unusedSimpArgs false
set_option linter.unusedVariables false
set_option linter.unusedSectionVars false
namespace Go.Ab.Dike
open Go Go.Ab
theorem makeB_ok {A : Hp} {n : Nat} (hn : n < 1000000) : makeSA 1 1 [.bool false] (.int .i64 n) (.int .i64 n) A = some (.slice (some ⟨A.n, 0, some 1⟩) n n, A.push (.cells (bools (List.replicate n false)) false)) := by
  unfold makeSA
  simp only
  rw [if_pos (by unfold room; omega)]
  simp only [Int.toNat_natCast]
  congr 3
  congr 1
  apply List.ext_getElem?
  intro i
  simp only [zeros, bools, List.length_singleton, Nat.mul_one, List.getElem?_map, List.getElem?_range', List.getElem?_replicate]
  by_cases h : i < n
  · simp [h, Nat.mod_one]
  · simp [h]
theorem StepAt.get {A : Hp} {cells : List Value} {j : Nat} {s : StepT} (h : StepAt A cells j s) : ∃ a, (∀ (o : Nat) v, (stepC a s)[o]? = some v → cells[j * 7 + o]? = some v) ∧ RdS A 1 s.an (ints s.al) a := by
  obtain ⟨a, p1, p2, p3, p4, p5, p6, p7, p8, p9, ra⟩ := h
  refine ⟨a, fun o v ho => ?_, ra⟩
  match o with
  | 0 => rw [← ho]; exact p2
  | 1 => rw [← ho]; exact p3
  | 2 => rw [← ho]; exact p5
  | 3 => rw [← ho]; exact p6
  | 4 => rw [← ho]; exact p7
  | 5 => rw [← ho]; exact p8
  | 6 => rw [← ho]; exact p9
  | o + 7 => cases ho
theorem steps_isCell {A : Hp} {cells : List Value} {n : Nat} {S : Nat → StepT} (hl : cells.length = n * 7) (h : ∀ j, j < n → StepAt A cells j (S j)) : cells.all isCell = true := by
  rw [List.all_eq_true]
  intro x hx
  obtain ⟨q, hq, rfl⟩ := List.getElem_of_mem hx
  obtain ⟨a, h1, ra⟩ := (h (q / 7) (by omega)).get
  obtain ⟨pa, na, rfl⟩ := ra.isSlice
  have ho : q % 7 < 7 := Nat.mod_lt _ (by decide)
  have hlen : (stepC (.slice pa (S (q / 7)).an na) (S (q / 7))).length = 7 := rfl
  have h2 := h1 (q % 7) _ (List.getElem?_eq_getElem (by omega))
  rw [show q / 7 * 7 + q % 7 = q by omega, List.getElem?_eq_getElem hq] at h2
  rw [Option.some.inj h2]
  have hall : (stepC (.slice pa (S (q / 7)).an na) (S (q / 7))).all isCell = true := rfl
  exact List.all_eq_true.1 hall _ (List.getElem_mem _)
def RowS (N : Nat) (A : Hp) (n : Nat) (S : Nat → StepT) (lv : Value) : Prop :=
  (lv = .slice none 0 0 ∧ n = 0) ∨ ∃ Y c cells, lv = .slice (some ⟨Y, 0, some 7⟩) n c ∧ A.get Y = some (.cells cells false) ∧ N ≤ Y ∧ cells.length = n * 7 ∧ ∀ j, j < n → SSep A cells lv j (S j)
theorem RowS.steps {N n : Nat} {A : Hp} {S : Nat → StepT} {lv : Value} (h : RowS N A n S lv) : Steps A n S lv := by
  rcases h with ⟨rfl, rfl⟩ | ⟨Y, c, cells, rfl, h1, _, h2, h3⟩
  · exact ⟨[], ⟨rfl, .inl ⟨rfl, rfl⟩⟩, fun i hi => absurd hi (by omega)⟩
  · refine ⟨cells, ⟨h2, .inr ⟨Y, c, false, rfl, h1⟩⟩, fun i hi => ?_⟩
    obtain ⟨a, p1, p2, _⟩ := h3 i hi
    exact stepAt_of p1 p2
section
variable {g : Nat} {rd : Option Nat} {T : List Value} {D : List Nat} {A : Hp} {Q : Ex → St → Prop} {V : Value → Hp → Prop} {v : Value}
theorem w174 {n : Nat} {al : List Int} {a : Value} (ha : RdS A 1 n (ints al) a) (hn : n < 1000000) (hg : g ≤ A.n) (hV : ∀ A' a', Ext' A A' → RdS A' 1 n (ints al) a' → (∀ z, blkOf a' = some z → A.n ≤ z) → V a' A') : WF AP KL g 174 [a] A V := by
  rw [WF_body (show KL 174 = none from rfl) (show AP 174 = some F174 from rfl)]
  obtain ⟨hl, ⟨rfl, rfl⟩ | ⟨b, c, ro, rfl, hb⟩⟩ := id ha
  · simp (disch := as_aux_lemma => first | omega | simp only [hDs] <;> omega | simp [isCell]) [hRs, takeMarks, resA, resAll, resOne, Value.cells, F174, eqNilA, isNil]
    exact hV A _ (Ext'.refl _) ⟨hl, .inl ⟨rfl, rfl⟩⟩ (fun z hz => by cases hz)
  · obtain ⟨Y, c', A', h1, e1, hY, hAY⟩ := copy_fresh (g := g) (bytes := 8) ha (ints_isCell _) hg (by decide) (by unfold room; omega)
    have hzer : zeros 0 [Value.int IntKind.i64 0] = [] := rfl
    simp (disch := as_aux_lemma => first | omega | simp only [hDs] <;> omega | simp [isCell]) [hRs, takeMarks, resA, resAll, resOne, Value.cells, F174, eqNilA, isNil, slitA, fillA, hzer, h1]
    exact hV A' _ e1 ⟨hl, .inr ⟨Y, c', false, rfl, hY⟩⟩ (fun z hz => by cases hz; exact hAY)
theorem w173 {n : Nat} {S : Nat → StepT} {sl : Value} (hsl : Steps A n S sl) (hn : n < 1000000) (hg : g ≤ A.n) (hV : ∀ A' lv, Ext' A A' → RowS A.n A' n S lv → V lv A') : WF AP KL g 173 [sl] A V := by
  rw [WF_body (show KL 173 = none from rfl) (show AP 173 = some F173 from rfl)]
  obtain ⟨cells, hr, hat⟩ := hsl
  obtain ⟨hl, ⟨rfl, rfl⟩ | ⟨b, c, ro, rfl, hb⟩⟩ := id hr
  · simp (disch := as_aux_lemma => first | omega | simp only [hDs] <;> omega | simp [isCell]) [hRs, takeMarks, resA, resAll, resOne, Value.cells, F173, eqNilA, isNil]
    exact hV A _ (Ext'.refl _) (.inl ⟨rfl, rfl⟩)
  · obtain ⟨Y, c', A', h1, e1, hY, hAY⟩ := copy_fresh (g := g) (bytes := 72) hr (steps_isCell hl hat) hg (by decide) (by unfold room; omega)
    have hzer : zeros 0 [Value.string ⟨⟨[]⟩⟩, .slice none 0 0, .int .i64 0, .int .i64 0, .bool false, .bool false, .int .i64 0] = [] := rfl
    simp (disch := as_aux_lemma => first | omega | simp only [hDs] <;> omega | simp [isCell]) [hRs, takeMarks, resA, resAll, resOne, Value.cells, F173, eqNilA, isNil, slitA, fillA, hzer, h1]
    refine hV A' _ e1 (.inr ⟨Y, c', cells, rfl, hY, hAY, hl, fun j hj => ?_⟩)
    obtain ⟨a, p1, ra⟩ := (hat j hj).get
    exact ⟨a, p1, e1.rdS ra, fun z hz h => by have := ra.blk_lt hz; cases h; omega⟩
theorem loop146 {A0 : Hp} {N n : Nat} {S : Nat → StepT} {lv : Value} (hn : n < 1000000) (hS : ∀ i, i < n → (S i).an < 1000000) (hg : g ≤ N)
    (hQ : ∀ T' A', tget T' 0 = lv → tget T' 1 = tget T 1 → RowS N A' n S lv → N ≤ A'.n → (∀ z, z < N → A'.get z = A0.get z) → Q (.exit 0) ⟨T', D, A'⟩) :
    ∀ (r i : Nat) {T1 : List Value} {A : Hp}, i + r = n → tget T1 0 = lv → tget T1 1 = tget T 1 → tget T1 22 = .int .i64 n → tget T1 23 = .int .i64 i → RowS N A n S lv → N ≤ A.n → (∀ z, z < N → A.get z = A0.get z) → W AP KL g rd (.loop body146) ⟨T1, D, A⟩ Q := by
  intro r
  induction r with
  | zero =>
    intro i T1 A hir t0 t1 t22 t23 hR hN ho
    have : i = n := by omega
    subst this
    rw [W_loop]
    simp (disch := as_aux_lemma => first | omega | simp only [hDs] <;> omega | simp [isCell]) [hRs, takeMarks, resA, resAll, resOne, Value.cells, body146, t22, t23]
    exact hQ _ _ (by simp [t0]) (by simp [t1]) hR hN ho
  | succ r ih =>
    intro i T1 A hir t0 t1 t22 t23 hR hN ho
    rcases hR with ⟨_, h0⟩ | ⟨Y, c, cells, rfl, hY, hNY, hl, hsep⟩
    · omega
    obtain ⟨a, p1, ra, pb⟩ := hsep i (by omega)
    have hYn := Hp.lt_of_get hY
    have hc1 : cellAt cells (i * 7 + 1) = some a := p1 1 _ rfl
    have e3 := wrId (n := (i : Int) + 1) (by omega) (by omega)
    rw [W_loop]
    simp (disch := as_aux_lemma => first | omega | simp only [hDs] <;> omega | simp [isCell]) [hRs, takeMarks, resA, resAll, resOne, Value.cells, body146, t0, t22, t23, show ((i : Int) < n) by omega, idxSA_ok, hY, hc1]
    refine w174 (g := g) (n := (S i).an) (al := (S i).al) ra (hS i (by omega)) (by omega) fun A1 a' e1 ra' hb' => ?_
    have hY1 := e1.get hY
    obtain ⟨pa, na, rfl⟩ := ra'.isSlice
    have n1 := e1.1
    simp (disch := as_aux_lemma => first | omega | simp only [hDs] <;> omega | simp [isCell]) [hRs, takeMarks, resA, resAll, resOne, Value.cells, t0, t23, show ((i : Int) < n) by omega, idxSA_ok, hY1, storeB_cells]
    refine ih (i + 1) (by omega) (by simp [t0]) (by simp [t1]) (by simp [t22]) (by simp [e3, t23]) (.inr ⟨Y, c, setRange cells (i * 7 + 1) [.slice pa (S i).an na], rfl, get_set_same hY1, hNY, (setRange_length (by simp; omega)).trans hl, fun j hj => ?_⟩) (by simp; omega) fun z hz => ?_
    · have hat : ∀ q, (setRange cells (i * 7 + 1) [.slice pa (S i).an na])[q]? = if q = i * 7 + 1 then some (.slice pa (S i).an na) else cells[q]? := fun q => by
        rw [setRange_get (by simp; omega)]
        simp only [List.length_singleton]
        by_cases c1 : q = i * 7 + 1
        · rw [if_pos (by omega), if_pos c1, show q - (i * 7 + 1) = 0 by omega]; rfl
        · rw [if_neg (by omega), if_neg c1]
      by_cases hji : j = i
      · subst hji
        refine (show SSep _ _ _ j (S j) from ⟨.slice pa (S j).an na, fun o x hx => ?_, ra'.keepB fun z hz => get_set_ne (Hp.lt_of_get hY1) (by have := hb' z hz; omega), fun z hz h => by have := hb' z hz; cases h; omega⟩)
        rw [hat]
        match o with
        | 0 => rw [if_neg (by omega)]; exact p1 0 _ hx
        | 1 => rw [if_pos (by omega)]; exact hx
        | 2 => rw [if_neg (by omega)]; exact p1 2 _ hx
        | 3 => rw [if_neg (by omega)]; exact p1 3 _ hx
        | 4 => rw [if_neg (by omega)]; exact p1 4 _ hx
        | 5 => rw [if_neg (by omega)]; exact p1 5 _ hx
        | 6 => rw [if_neg (by omega)]; exact p1 6 _ hx
        | o + 7 => cases hx
      · obtain ⟨aj, q1, rj, qb⟩ := hsep j hj
        refine ⟨aj, fun o x hx => ?_, rj.keepB fun z hz => ?_, qb⟩
        · have ho7 : o < 7 := by
            have := (List.getElem?_eq_some_iff.1 hx).1
            simpa [stepC] using this
          rw [hat, if_neg (by omega)]; exact q1 o x hx
        · have hzY : z ≠ Y := fun h => qb z hz (by rw [h]; rfl)
          rw [get_set_ne (Hp.lt_of_get hY1) hzY, e1.2 z (rj.blk_lt hz)]
    · rw [get_set_ne (Hp.lt_of_get hY1) (by omega), e1.2 z (by omega), ho z hz]
theorem w146 {n : Nat} {S : Nat → StepT} {sl : Value} {logs : Int} (hsl : Steps A n S sl) (hn : n < 1000000) (hS : ∀ i, i < n → (S i).name.size < 1000000 ∧ (S i).an < 1000000) (hlg : 0 ≤ logs ∧ logs ≤ 100) (hok : stepsE n S = 0) (hg : g ≤ A.n)
    (hV : ∀ A' (p : GP), Ext' A A' → p.n = n → p.S = S → A.n ≤ p.L → GateAt A' p ⟨List.replicate n false, logs, false, [], 0⟩ → V (.tuple ⟨[.pointer (some ⟨p.G, 0, none⟩), .int .i64 0]⟩) A') : WF AP KL g 146 [sl, .int .i64 logs] A V := by
  rw [WF_body (show KL 146 = none from rfl) (show AP 146 = some F146 from rfl)]
  simp (disch := as_aux_lemma => first | omega | simp only [hDs] <;> omega | simp [isCell]) [hRs, takeMarks, resA, resAll, resOne, Value.cells, F146]
  refine w135 hsl hn hS hg fun A1 e1 => ?_
  have n1 := e1.1
  rw [hok]
  simp (disch := as_aux_lemma => first | omega | simp only [hDs] <;> omega | simp [isCell]) [hRs, takeMarks, resA, resAll, resOne, Value.cells, show ¬ logs < 0 by omega, show ¬ 100 < logs by omega]
  refine w173 (hsl.ext e1) hn (by omega) fun A2 lv e2 hR => ?_
  have n2 := e2.1
  have hll := hR.steps.len
  simp (disch := as_aux_lemma => first | omega | simp only [hDs] <;> omega | simp [isCell]) [hRs, takeMarks, resA, resAll, resOne, Value.cells, hll]
  refine loop146 (A0 := A2) (N := A1.n) (lv := lv) hn (fun i hi => (hS i hi).2) (by omega) ?_ (T := _) n 0 (by omega) (by simp) rfl (by simp) (by simp) hR (by omega) (fun _ _ => rfl)
  intro T3 A3 t0 t1 hR3 hN3 ho3
  have hst := hR3.steps
  have hl3 := hst.len
  simp at t1
  have hlv : ∃ pv q c, lv = .slice pv q c := by
    rcases hR3 with ⟨rfl, _⟩ | ⟨_, _, _, rfl, _⟩
    · exact ⟨_, _, _, rfl⟩
    · exact ⟨_, _, _, rfl⟩
  obtain ⟨pv, qv, cv, rfl⟩ := hlv
  have e03 : Ext' A A3 := ⟨by omega, fun z hz => by rw [ho3 z (by omega), e2.2 z (by omega), e1.2 z hz]⟩
  simp (disch := as_aux_lemma => first | omega | simp only [hDs] <;> omega | simp [isCell]) [hRs, takeMarks, resA, resAll, resOne, Value.cells, t0, t1, hl3, makeB_ok hn, fillA, setRange]
  have eP := ((Ext'.push A3 (.cells (bools (List.replicate n false)) false)).trans (Ext'.push _ (.map [] none))).trans (Ext'.push _ (.cells (gateC (.slice pv qv cv) A3.n n logs false (A3.n + 1) 0) false))
  refine hV _ ⟨A3.n, n, S, A3.n + 2, A3.n, A3.n + 1, .slice pv qv cv⟩ (e03.trans eP) rfl rfl e03.1 ⟨⟨A3, Nat.le_refl _, fun z hz => eP.2 z hz, hst⟩, ?_, ?_, by simp, ?_, by simp only; omega⟩
  · rw [get_push_eq (by simp)]; rfl
  · simp only
    rw [get_push_old (by simp only [Hp.n_push]; omega), get_push_old (by simp), get_push_new]
  · simp only
    rw [get_push_old (by simp only [Hp.n_push]; omega), get_push_eq (by simp)]; rfl
end
end Go.Ab.Dike
namespace Go.Ab.Dike
open Go Go.Ab
structure AftOk (S : Nat → StepT) (n : Nat) : Prop where
  len : ∀ k, k < n → (S k).al.length = (S k).an
  aa : ∀ k, k < n → ∀ q, q < (S k).an → 0 ≤ gi (S k).al q ∧ gi (S k).al q < k
theorem AftOk.dir {S : Nat → StepT} {n k a : Nat} (h : AftOk S n) (hk : k < n) : dirB S k a = true ↔ ∃ q, q < (S k).an ∧ gi (S k).al q = a := by
  have hl := h.len k hk
  unfold dirB
  rw [decide_eq_true_iff, ← hl, List.take_length]
  constructor
  · intro hm
    obtain ⟨q, hq, e⟩ := List.getElem_of_mem hm
    exact ⟨q, hq, by rw [gi_eq hq, e]⟩
  · rintro ⟨q, hq, e⟩
    rw [gi_eq hq] at e
    rw [← e]; exact List.getElem_mem hq
theorem AftOk.lt {S : Nat → StepT} {n k a : Nat} (h : AftOk S n) (hk : k < n) (hd : dirB S k a = true) : a < k := by
  obtain ⟨q, hq, e⟩ := (h.dir hk).1 hd
  have := h.aa k hk q hq
  omega
theorem AftOk.done {S : Nat → StepT} {n k : Nat} {d : List Bool} (h : AftOk S n) (hk : k < n) : aftDone S d k = true ↔ ∀ a, dirB S k a = true → gb d a = true := by
  unfold aftDone
  rw [List.all_eq_true]
  constructor
  · intro hall a hd
    obtain ⟨q, hq, e⟩ := (h.dir hk).1 hd
    have := hall q (List.mem_range.2 hq)
    rwa [e, Int.toNat_natCast] at this
  · intro hall q hq
    have hq := List.mem_range.1 hq
    have := h.aa k hk q hq
    refine hall _ ((h.dir hk).2 ⟨q, hq, by omega⟩)
def Closed (S : Nat → StepT) (n : Nat) (d : List Bool) : Prop := ∀ k, k < n → gb d k = true → ∀ a, dirB S k a = true → gb d a = true
theorem UndoR.dep_off {S : Nat → StepT} {n j : Nat} {d d' : List Bool} (hS : AftOk S n) (hc : Closed S n d) (h : UndoR S n d d' j) : ∀ {a : Nat}, Dep S j a → a < n → gb d' a = false
  | _, .self, _ => h.off
  | a, .step (a := b) h1 h2, ha => by
    have hb := hS.lt ha h2
    have ih := UndoR.dep_off hS hc h h1 (by omega)
    cases hd : gb d' a with
    | false => rfl
    | true =>
      have h3 := h.sub a hd
      have h4 := hc a ha h3 b h2
      have := h.dep b h4 ih a ha h2
      rw [this] at hd; cases hd
theorem UndoR.closed {S : Nat → StepT} {n j : Nat} {d d' : List Bool} (hc : Closed S n d) (h : UndoR S n d d' j) : Closed S n d' := fun k hk hd a ha => by
  cases hb : gb d' a with
  | true => rfl
  | false =>
    have h1 := hc k hk (h.sub k hd) a ha
    rw [h.dep a h1 hb k hk ha] at hd; cases hd
theorem Closed.set {S : Nat → StepT} {n j : Nat} {d : List Bool} (hS : AftOk S n) (hl : d.length = n) (hc : Closed S n d) (hj : j < n) (ha : aftDone S d j = true) : Closed S n (d.set j true) := fun k hk hd a hda => by
  rw [gb_set (by omega)] at hd ⊢
  split
  · rfl
  · split at hd
    · rename_i h; subst h
      exact (hS.done hk).1 ha a hda
    · exact hc k hk hd a hda
theorem Closed.none {S : Nat → StepT} {n m : Nat} : Closed S n (List.replicate m false) := fun k hk hd => by
  unfold gb at hd
  rw [List.getD_eq_getElem?_getD, List.getElem?_replicate] at hd
  split at hd <;> cases hd
def passN (S : Nat → StepT) (d : List Bool) : Nat → List Bool
  | 0 => d
  | i + 1 => (passN S d i).set i (gb (passN S d i) i && aftDone S (passN S d i) i)
theorem passN_length (S : Nat → StepT) (d : List Bool) : ∀ i, (passN S d i).length = d.length
  | 0 => rfl
  | i + 1 => by rw [passN, List.length_set, passN_length S d i]
theorem pass_undo {S : Nat → StepT} {n j : Nat} {d d' : List Bool} (hS : AftOk S n) (hl : d.length = n) (hj : j < n) (hc : Closed S n d) (h : UndoR S n d d' j) : ∀ i, i ≤ n → ∀ k, gb (passN S (d.set j false) i) k = if k < i then gb d' k else gb (d.set j false) k
  | 0, _, k => by rw [if_neg (by omega)]; rfl
  | i + 1, hi, k => by
    have ih := pass_undo hS hl hj hc h i (by omega)
    have hlen := passN_length S (d.set j false) i
    rw [List.length_set] at hlen
    rw [passN, gb_set (by omega)]
    by_cases hk : k = i
    · subst hk
      rw [if_pos rfl, if_pos (by omega), ih k, if_neg (by omega)]
      have hdone : aftDone S (passN S (d.set j false) k) k = true ↔ ∀ a, dirB S k a = true → gb d' a = true := by
        rw [hS.done (by omega)]
        constructor
        · intro hx a ha
          have := hx a ha
          rwa [ih a, if_pos (hS.lt (by omega) ha)] at this
        · intro hx a ha
          rw [ih a, if_pos (hS.lt (by omega) ha)]
          exact hx a ha
      rw [gb_set (by omega), Bool.eq_iff_iff, Bool.and_eq_true, hdone]
      constructor
      · rintro ⟨h1, h2⟩
        by_cases hkj : k = j
        · rw [if_pos hkj] at h1; cases h1
        · rw [if_neg hkj] at h1
          cases hb : gb d' k with
          | true => rfl
          | false =>
            have hdep := h.only k h1 hb
            cases hdep with
            | self => exact absurd rfl hkj
            | step g1 g2 =>
              have := h.dep_off hS hc g1 (by have := hS.lt (by omega) g2; omega)
              rw [h2 _ g2] at this; cases this
      · intro hb
        have hkj : k ≠ j := by intro he; subst he; rw [h.off] at hb; cases hb
        rw [if_neg hkj]
        exact ⟨h.sub k hb, h.closed hc k (by omega) hb⟩
    · rw [if_neg hk, ih k]
      by_cases h2 : k < i
      · rw [if_pos h2, if_pos (by omega)]
      · rw [if_neg h2, if_neg (by omega)]
theorem gb_ext {a b : List Bool} (hl : a.length = b.length) (h : ∀ k, gb a k = gb b k) : a = b := by
  apply List.ext_getElem hl
  intro i h1 h2
  have := h i
  simpa [gb, h1, h2] using this
theorem pass_eq {S : Nat → StepT} {n j : Nat} {d d' : List Bool} (hS : AftOk S n) (hl : d.length = n) (hj : j < n) (hc : Closed S n d) (h : UndoR S n d d' j) : passN S (d.set j false) n = d' := by
  refine gb_ext (by rw [passN_length, List.length_set, h.len]) fun k => ?_
  rw [pass_undo hS hl hj hc h n (Nat.le_refl _) k]
  split
  · rfl
  · have h1 : gb (d.set j false) k = false := by
      rw [gb_set (by omega), if_neg (by omega)]
      unfold gb
      rw [List.getD_eq_getElem?_getD, List.getElem?_eq_none (by omega)]; rfl
    rw [h1]
    unfold gb
    rw [List.getD_eq_getElem?_getD, List.getElem?_eq_none (by have := h.len; omega)]; rfl
theorem leftL_mem {d : List Bool} {v : Int} : ∀ {n : Nat}, v ∈ leftL d n ↔ ∃ i : Nat, i < n ∧ v = i ∧ gb d i = false
  | 0 => by simp [leftL]
  | n + 1 => by
    have ih := leftL_mem (d := d) (v := v) (n := n)
    unfold leftL
    cases hb : gb d n with
    | true =>
      rw [if_pos rfl, ih]
      constructor
      · rintro ⟨i, h1, h2, h3⟩; exact ⟨i, by omega, h2, h3⟩
      · rintro ⟨i, h1, h2, h3⟩
        have : i ≠ n := by intro h; subst h; rw [hb] at h3; cases h3
        exact ⟨i, by omega, h2, h3⟩
    | false =>
      rw [if_neg (by decide), List.mem_append, ih, List.mem_singleton]
      constructor
      · rintro (⟨i, h1, h2, h3⟩ | h)
        · exact ⟨i, by omega, h2, h3⟩
        · exact ⟨n, by omega, h, hb⟩
      · rintro ⟨i, h1, h2, h3⟩
        by_cases hi : i = n
        · subst hi; exact .inr h2
        · exact .inl ⟨i, by omega, h2, h3⟩
theorem left_iff {d : List Bool} {n i : Nat} (hi : i < n) : decide ((i : Int) ∈ leftL d n) = !gb d i := by
  rw [Bool.eq_iff_iff, decide_eq_true_iff, leftL_mem]
  constructor
  · rintro ⟨k, _, h2, h3⟩
    have : k = i := by omega
    subst this; simp [h3]
  · intro h
    exact ⟨i, hi, rfl, by simpa using h⟩
section
variable {α : Type}
theorem sS_keys {w : ByteArray} {a : α} : ∀ {l : List (ByteArray × α)}, (w ∈ l.map (·.1) → (sS w a l).map (·.1) = l.map (·.1)) ∧ (w ∉ l.map (·.1) → (sS w a l).map (·.1) = l.map (·.1) ++ [w])
  | [] => ⟨fun h => (by cases h), fun _ => rfl⟩
  | e :: l => by
    obtain ⟨ih1, ih2⟩ := sS_keys (w := w) (a := a) (l := l)
    unfold sS
    by_cases h : strEq w e.1 = true
    · have he := strEq_iff.1 h
      rw [if_pos h]
      refine ⟨fun _ => by simp [he], fun hn => absurd (by rw [List.map_cons, he]; exact List.mem_cons_self ..) hn⟩
    · have he : ¬ w = e.1 := fun h' => h (strEq_iff.2 h')
      rw [if_neg h, List.map_cons, List.map_cons]
      refine ⟨fun hm => ?_, fun hn => ?_⟩
      · rw [ih1 ((List.mem_cons.1 hm).resolve_left he)]
      · rw [ih2 fun hm => hn (List.mem_cons_of_mem _ hm)]; rfl
end
def KeyOk (es : List Seen) : Prop := ∃ js : List Nat, es.map (·.1) = js.map (fun j => (⟨⟨[119, chrOf j]⟩⟩ : ByteArray)) ∧ js.Nodup ∧ ∀ j ∈ js, j < 5
theorem KeyOk.nil : KeyOk [] := ⟨[], rfl, List.nodup_nil, fun j h => by cases h⟩
theorem chr_inj {i j : Nat} (hi : i < 10) (hj : j < 10) (h : chrOf i = chrOf j) : i = j := by
  have h3 := congrArg UInt8.toNat h
  simp [chrOf] at h3
  omega
theorem nodup_lt : ∀ (n : Nat) (l : List Nat), l.Nodup → (∀ x ∈ l, x < n) → l.length ≤ n
  | 0, l, _, h => by
    cases l with
    | nil => simp
    | cons x l => exact absurd (h x (List.mem_cons_self ..)) (by omega)
  | n + 1, l, hn, h => by
    by_cases hm : n ∈ l
    · have h1 := nodup_lt n (l.erase n) (hn.erase n) fun x hx => by
        have h2 := (hn.mem_erase_iff).1 hx
        have := h x h2.2
        have := h2.1
        omega
      have := List.length_erase_of_mem hm
      have := List.length_pos_of_mem hm
      omega
    · have := nodup_lt n l hn fun x hx => by
        have := h x hx
        have : x ≠ n := fun h' => hm (h' ▸ hx)
        omega
      omega
theorem KeyOk.len {es : List Seen} (h : KeyOk es) : es.length ≤ 5 := by
  obtain ⟨js, h1, h2, h3⟩ := h
  have hl : es.length = js.length := by have := congrArg List.length h1; simpa using this
  have := nodup_lt 5 js h2 h3
  omega
theorem KeyOk.set {es : List Seen} {i : Nat} {x : ByteArray × Bool} (h : KeyOk es) (hi : i < 5) : KeyOk (sS ⟨⟨[119, chrOf i]⟩⟩ x es) := by
  obtain ⟨js, h1, h2, h3⟩ := h
  have hk := sS_keys (w := ⟨⟨[119, chrOf i]⟩⟩) (a := x) (l := es)
  by_cases hm : i ∈ js
  · refine ⟨js, ?_, h2, h3⟩
    rw [hk.1 (by rw [h1]; exact List.mem_map.2 ⟨i, hm, rfl⟩), h1]
  · refine ⟨js ++ [i], ?_, ?_, fun j hj => ?_⟩
    · rw [hk.2, h1, List.map_append]
      · rfl
      · rw [h1]
        intro h
        obtain ⟨j, hj, e⟩ := List.mem_map.1 h
        injection e with e
        injection e with e
        injection e with _ e
        injection e with e
        exact hm (chr_inj (by have := h3 j hj; omega) (by omega) e ▸ hj)
    · rw [List.nodup_append]
      refine ⟨h2, by simp, ?_⟩
      intro a ha b hb
      rw [List.mem_singleton] at hb
      subst hb
      intro e
      exact hm (e ▸ ha)
    · rcases List.mem_append.1 hj with h | h
      · exact h3 j h
      · rw [List.mem_singleton] at h; omega
end Go.Ab.Dike
namespace Go.Ab.Dike
open Go Go.Ab
def shr8 (a : Int) (k : Nat) : Int := a.fdiv (2 ^ (min k 8))
def and8 (a : Int) : Int := IntKind.wrap .u8 (BitVec.ofInt (IntKind.bits .u8) a &&& BitVec.ofInt (IntKind.bits .u8) 1).toNat
theorem binA_shr8 {a : Int} {k : Nat} : binA .shr (.int .u8 a) (.int .u64 k) = some (.int .u8 (shr8 a k)) := by
  simp only [binA, shA]
  rw [if_neg (by omega)]
  rfl
theorem binA_and8 {a : Int} : binA .and (.int .u8 a) (.int .u8 1) = some (.int .u8 (and8 a)) := rfl
def clrB (b : Int) : Bool := decide (and8 (shr8 b 2) = 1)
def tlS (J : Nat → JobT) (lb : List Int) (ml i : Nat) : StepT := if ml = 0 then jobS J i else { jobS J i with logs := (gi lb (i % ml)).tmod 4, clear := clrB (gi lb (i % ml)) }
theorem steps_okG {n : Nat} {S : Nat → StepT} {af : Nat → Int} (hn : n ≤ 10) (h : ∀ i, i < n → (S i).name = nmOf i ∧ (S i).al = aftL (af i) i ∧ (S i).an = (aftL (af i) i).length ∧ (0 ≤ (S i).tl ∧ (S i).tl ≤ (S i).th ∧ (S i).th ≤ 100000000) ∧ 0 ≤ (S i).logs ∧ (S i).logs ≤ 100) : stepsE n S = 0 := by
  unfold stepsE
  rw [if_neg (by omega)]
  refine firstE_zero fun i hi => ?_
  obtain ⟨e1, e2, e3, ht, hl0, hl1⟩ := h i hi
  have h1 : nameB (S i).name = true := by rw [e1]; exact nm_ok i (by omega)
  have h2 : sameN S i = false := by
    unfold sameN
    rw [Bool.eq_false_iff]
    intro h'
    obtain ⟨k, hk, he⟩ := List.any_eq_true.1 h'
    have hki := List.mem_range.1 hk
    have := nm_ne (i := i) (k := k) (by omega) hki
    rw [(h k (by omega)).1, e1, this] at he
    cases he
  have h3 : firstE (aftE i (S i).al) (S i).an = 0 := by
    refine firstE_zero fun k hk => ?_
    rw [e3] at hk
    have := aftL_at (a := af i) (i := i) (k := k) hk
    rw [e2]
    unfold aftE
    rw [if_neg (by omega), if_neg this.2]
  rw [stpE_d h1 h2 h3]
  unfold lastE
  rw [if_neg]
  rintro (h' | h' | h')
  · have : validB (S i).tl (S i).th 0 100000000 = true := validB_iff.2 (by omega)
    rw [this] at h'
    cases h'
  · omega
  · omega
theorem tlS_ok {n ml : Nat} {J : Nat → JobT} {lb : List Int} (hJ : ∀ i, JobOk (J i)) (hb : ∀ j, 0 ≤ gi lb j ∧ gi lb j ≤ 255) : ∀ i, i < n → (tlS J lb ml i).name = nmOf i ∧ (tlS J lb ml i).al = aftL (J i).after i ∧ (tlS J lb ml i).an = (aftL (J i).after i).length ∧ (0 ≤ (tlS J lb ml i).tl ∧ (tlS J lb ml i).tl ≤ (tlS J lb ml i).th ∧ (tlS J lb ml i).th ≤ 100000000) ∧ 0 ≤ (tlS J lb ml i).logs ∧ (tlS J lb ml i).logs ≤ 3 := by
  intro i _
  obtain ⟨⟨l0, l1⟩, ⟨m0, m1⟩, _⟩ := hJ i
  unfold tlS
  split
  · exact ⟨rfl, rfl, rfl, by simp only [jobS, stp]; omega, by simp [jobS, stp], by simp [jobS, stp]⟩
  · have := hb (i % ml)
    have h1 := Int.tmod_nonneg 4 this.1
    have h2 := Int.tmod_lt_of_pos (gi lb (i % ml)) (b := 4) (by decide)
    exact ⟨rfl, rfl, rfl, by simp only [jobS, stp]; omega, h1, by simp only; omega⟩
theorem tl_aft {n ml : Nat} {J : Nat → JobT} {lb : List Int} : AftOk (tlS J lb ml) n := by
  have e : ∀ k, (tlS J lb ml k).al = aftL (J k).after k ∧ (tlS J lb ml k).an = (aftL (J k).after k).length := fun k => by
    unfold tlS
    split <;> exact ⟨rfl, rfl⟩
  refine ⟨fun k _ => by rw [(e k).1, (e k).2], fun k _ q hq => ?_⟩
  rw [(e k).2] at hq
  rw [(e k).1]
  exact (aftL_at hq).1
theorem Grow.put {N n i : Nat} {A : Hp} {S : Nat → StepT} {sv : Value} (h : Grow N A n S sv) (hi : i < n) : ∃ X cells, sv = .slice (some ⟨X, 0, some 7⟩) n n ∧ A.get X = some (.cells cells false) ∧ N ≤ X ∧ cells.length = n * 7 ∧
    ∀ (lg : Int) (cl : Bool) (A' : Hp), A'.get X = some (.cells (setRange (setRange cells (i * 7 + 6) [.int .i64 lg]) (i * 7 + 5) [.bool cl]) false) → (∀ z, z < A.n → z ≠ X → A'.get z = A.get z) → Grow N A' n (fun j => if j = i then { S j with logs := lg, clear := cl } else S j) sv := by
  obtain ⟨cells, h1, h2, h3⟩ := h
  obtain ⟨X, rfl, hX, hN⟩ := h1.row h2 (by omega) (by decide)
  refine ⟨X, cells, rfl, hX, hN, h2, fun v w A' hX' ho => ?_⟩
  have l1 : (setRange cells (i * 7 + 6) [.int .i64 v]).length = cells.length := setRange_length (by simp; omega)
  have l2 : (setRange (setRange cells (i * 7 + 6) [.int .i64 v]) (i * 7 + 5) [.bool w]).length = cells.length := (setRange_length (by simp; omega)).trans l1
  have hat : ∀ q, (setRange (setRange cells (i * 7 + 6) [.int .i64 v]) (i * 7 + 5) [.bool w])[q]? = if q = i * 7 + 5 then some (.bool w) else if q = i * 7 + 6 then some (.int .i64 v) else cells[q]? := fun q => by
    rw [setRange_get (by simp; omega), setRange_get (by simp; omega)]
    simp only [List.length_singleton]
    by_cases c1 : q = i * 7 + 5
    · rw [if_pos (by omega), if_pos c1, show q - (i * 7 + 5) = 0 by omega]; rfl
    · rw [if_neg (by omega), if_neg c1]
      by_cases c2 : q = i * 7 + 6
      · rw [if_pos (by omega), if_pos c2, show q - (i * 7 + 6) = 0 by omega]; rfl
      · rw [if_neg (by omega), if_neg c2]
  refine ⟨_, .inr ⟨X, n, rfl, hX', hN, by omega, by omega⟩, by omega, fun j hj => ?_⟩
  obtain ⟨a, p1, p2, p3⟩ := h3 j hj
  have hr : ∀ z, blkOf a = some z → A'.get z = A.get z := fun z hz => ho z (p2.blk_lt hz) (fun h => p3 z hz (by rw [h]; rfl))
  by_cases hji : j = i
  · subst hji
    simp only [if_true]
    refine ⟨a, fun o x hx => ?_, p2.keepB hr, p3⟩
    rw [hat]
    match o with
    | 0 => rw [if_neg (by omega), if_neg (by omega)]; exact p1 0 _ hx
    | 1 => rw [if_neg (by omega), if_neg (by omega)]; exact p1 1 _ hx
    | 2 => rw [if_neg (by omega), if_neg (by omega)]; exact p1 2 _ hx
    | 3 => rw [if_neg (by omega), if_neg (by omega)]; exact p1 3 _ hx
    | 4 => rw [if_neg (by omega), if_neg (by omega)]; exact p1 4 _ hx
    | 5 => rw [if_pos (by omega)]; exact hx
    | 6 => rw [if_neg (by omega), if_pos (by omega)]; exact hx
    | o + 7 => cases hx
  · simp only [if_neg hji]
    refine ⟨a, fun o x hx => ?_, p2.keepB hr, p3⟩
    have := p1 o x hx
    have ho7 : o < 7 := by
      have := (List.getElem?_eq_some_iff.1 hx).1
      simpa [stepC] using this
    rw [hat, if_neg (by omega), if_neg (by omega)]; exact this
section
variable {g : Nat} {rd : Option Nat} {T : List Value} {D : List Nat} {A : Hp} {Q : Ex → St → Prop} {V : Value → Hp → Prop}
theorem loop228a {N n ml : Nat} {A0 : Hp} {J : Nat → JobT} {lb : List Int} {sv ll : Value} (hn : n ≤ 20) (hll : RdS A0 1 ml (kints .u8 lb) ll) (hb : ∀ j, 0 ≤ gi lb j ∧ gi lb j ≤ 255) (hml : ml < 9223372036854775808) (hg : g ≤ N) (hNA : A0.n ≤ N)
    (hQ : ∀ T' A', KeepT [2, 7] T T' → Grow N A' n (tlS J lb ml) sv → (∀ z, z < N → A'.get z = A.get z) → A.n ≤ A'.n → Q (.exit 0) ⟨T', D, A'⟩) (t1 : tget T 1 = ll) (t7 : tget T 7 = sv) (hA0 : ∀ z, z < A0.n → A.get z = A0.get z) (hAn : N ≤ A.n) :
    ∀ (r i : Nat) {T1 : List Value} {A1 : Hp}, i + r = n → KeepT [1, 2, 7] T T1 → tget T1 54 = .int .i64 n → tget T1 55 = .int .i64 i → Grow N A1 n (fun j => if j < i then tlS J lb ml j else jobS J j) sv → (∀ z, z < N → A1.get z = A.get z) → A.n ≤ A1.n → W AP KL g rd (.loop body228a) ⟨T1, D, A1⟩ Q := by
  have hlb := hll.1
  rw [kints_length] at hlb
  intro r
  induction r with
  | zero =>
    intro i T1 A1 hir hk t54 t55 hG ho hn1
    have : i = n := by omega
    subst this
    rw [W_loop]
    simp (disch := as_aux_lemma => first | omega | simp only [hDs] <;> omega | simp [isCell]) [hRs, takeMarks, resA, resAll, resOne, Value.cells, body228a, t54, t55]
    refine hQ _ _ ?_ (hG.same fun j hj => by simp [hj]) ho hn1
    simp [hk.at 2 rfl, hk.at 7 rfl]
  | succ r ih =>
    intro i T1 A1 hir hk t54 t55 hG ho hn1
    have u1 := (hk.at 1 rfl).trans t1
    have u7 := (hk.at 7 rfl).trans t7
    have e1 := wrId (n := (i : Int) + 1) (by omega) (by omega)
    have hrl : RdS A1 1 ml (kints .u8 lb) ll := hll.mono fun z hz => by rw [ho z (by omega), hA0 z hz]
    rw [W_loop]
    by_cases hm : ml = 0
    · have hlen := hrl.len
      subst hm
      simp (disch := as_aux_lemma => first | omega | simp only [hDs] <;> omega | simp [isCell]) [hRs, takeMarks, resA, resAll, resOne, Value.cells, body228a, u1, t54, t55, show ((i : Int) < n) by omega, hlen]
      refine ih (i + 1) (by omega) (hk.trans (by simp)) (by simp [t54]) (by simp [e1, t55]) (hG.same fun j hj => ?_) ho hn1
      have : tlS J lb 0 j = jobS J j := rfl
      simp [this]
    · obtain ⟨X, cells, rfl, hX, hN, hl, hset⟩ := hG.put (i := i) (by omega)
      obtain ⟨x, c, ro, rfl, hx⟩ := hrl.at (i := i % ml) (Nat.mod_lt _ (by omega))
      have hXn := Hp.lt_of_get hX
      have hlt := Nat.mod_lt i (show 0 < ml by omega)
      have hmod : (i : Int).tmod (ml : Int) = ((i % ml : Nat) : Int) := by rw [Int.tmod_eq_emod_of_nonneg (by omega)]; rfl
      obtain ⟨q, hq⟩ : ∃ q, q = i % ml := ⟨_, rfl⟩
      have hvb := hb q
      rw [← hq] at hmod hlt
      have hp := kints_get (k := .u8) (l := lb) (o := q) (by omega)
      obtain ⟨v, hv⟩ : ∃ v, v = gi lb q := ⟨_, rfl⟩
      rw [← hv] at hp hvb
      have f1 := wrId (n := v) (by omega) (by omega)
      have hml0 : (ml : Int) ≠ 0 := by omega
      have l1' : (setRange cells (i * 7 + 6) [.int .i64 (v.tmod 4)]).length = n * 7 := (setRange_length (by simp; omega)).trans hl
      have st1 : storeB (some (.cells cells false)) g A1 X (i * 7 + 6) [.int .i64 (v.tmod 4)] 1 = some (undef, A1.set X (some (.cells (setRange cells (i * 7 + 6) [.int .i64 (v.tmod 4)]) false))) := storeB_cells rfl (by omega) (by omega) rfl
      obtain ⟨B, hB⟩ : ∃ B, B = A1.set X (some (.cells (setRange cells (i * 7 + 6) [.int .i64 (v.tmod 4)]) false)) := ⟨_, rfl⟩
      rw [← hB] at st1
      have hBn : B.n = A1.n := by rw [hB]; rfl
      have hXB : B.get X = some (.cells (setRange cells (i * 7 + 6) [.int .i64 (v.tmod 4)]) false) := by rw [hB]; exact get_set_same hX
      have st2 : storeB (some (.cells (setRange cells (i * 7 + 6) [.int .i64 (v.tmod 4)]) false)) g B X (i * 7 + 5) [.bool (decide (and8 (shr8 v 2) = 1))] 1 = some (undef, B.set X (some (.cells (setRange (setRange cells (i * 7 + 6) [.int .i64 (v.tmod 4)]) (i * 7 + 5) [.bool (decide (and8 (shr8 v 2) = 1))]) false))) := storeB_cells rfl (by omega) (by omega) rfl
      have h2 : binA .shr (.int .u8 v) (.int .u64 2) = some (.int .u8 (shr8 v 2)) := binA_shr8 (k := 2)
      simp (disch := as_aux_lemma => first | omega | simp only [hDs] <;> omega | simp [isCell]) [hRs, takeMarks, resA, resAll, resOne, Value.cells, body228a, u1, u7, t54, t55, show ((i : Int) < n) by omega, hm, show 0 < ml by omega, hml0, binA_rem, hmod, show ((q : Int) < ml) by omega, idxSA_ok, hx, hp, toIntA, f1, h2, binA_and8, hX, st1, hXB, st2]
      refine ih (i + 1) (by omega) (hk.trans (by simp)) (by simp [t54]) (by simp [e1, t55]) ?_ (fun z hz => ?_) (by simp; omega)
      · refine (hset (v.tmod 4) (decide (and8 (shr8 v 2) = 1)) _ (get_set_same hXB) fun z hz hzX => ?_).same fun j hj => ?_
        · rw [get_set_ne (by omega) hzX, hB, get_set_ne hXn hzX]
        · by_cases hji : j = i
          · subst hji
            simp [tlS, hm, ← hq, ← hv, clrB]
          · have : (j < i) ↔ (j < i + 1) := by omega
            simp [hji, this]
      · rw [get_set_ne (by omega) (by omega), hB, get_set_ne hXn (by omega), ho z hz]
theorem loop236 {n : Nat} {al : List Int} {sl : Value} {v : Int} (hsl : RdS A 1 n (ints al) sl) (hn : n ≤ 1000)
    (hin : ∀ T', v ∈ al → tget T' 4 = .bool true → Q .ret ⟨T', D, A⟩) (hout : ∀ T', v ∉ al → Q (.exit 0) ⟨T', D, A⟩) :
    ∀ (r i : Nat) {T : List Value}, i + r = n → (∀ j, j < i → gi al j ≠ v) → tget T 1 = .int .i64 v → tget T 7 = sl → tget T 8 = .int .i64 n → tget T 9 = .int .i64 i → W AP KL g rd (.loop body236) ⟨T, D, A⟩ Q := by
  have hl := hsl.1
  rw [ints_length] at hl
  intro r
  induction r with
  | zero =>
    intro i T hir hno t1 t7 t8 t9
    have : i = n := by omega
    subst this
    rw [W_loop]
    simp (disch := as_aux_lemma => first | omega | simp only [hDs] <;> omega | simp [isCell]) [hRs, takeMarks, resA, resAll, resOne, Value.cells, body236, t8, t9]
    refine hout _ fun hm => ?_
    obtain ⟨q, hq, e⟩ := List.getElem_of_mem hm
    exact hno q (by omega) (by rw [gi_eq hq, e])
  | succ r ih =>
    intro i T hir hno t1 t7 t8 t9
    obtain ⟨x, c, ro, rfl, hx⟩ := hsl.at (i := i) (by omega)
    have e1 := wrId (n := (i : Int) + 1) (by omega) (by omega)
    rw [W_loop]
    by_cases hv : gi al i = v
    · simp (disch := as_aux_lemma => first | omega | simp only [hDs] <;> omega | simp [isCell]) [hRs, takeMarks, resA, resAll, resOne, Value.cells, body236, t1, t7, t8, t9, show ((i : Int) < n) by omega, idxSA_ok, hx, ints_get, hv]
      refine hin _ ?_ (by simp)
      rw [← hv, gi_eq (by omega)]
      exact List.getElem_mem _
    · simp (disch := as_aux_lemma => first | omega | simp only [hDs] <;> omega | simp [isCell]) [hRs, takeMarks, resA, resAll, resOne, Value.cells, body236, t1, t7, t8, t9, show ((i : Int) < n) by omega, idxSA_ok, hx, ints_get, hv]
      refine ih (i + 1) (by omega) (fun j hj => ?_) (by simp [t1]) (by simp [t7]) (by simp [t8]) (by simp [e1])
      rcases Nat.lt_or_ge j i with h | h
      · exact hno j h
      · have : j = i := by omega
        subst this; exact hv
theorem w236 {n : Nat} {al : List Int} {sl : Value} {v : Int} (hsl : RdS A 1 n (ints al) sl) (hn : n ≤ 1000) (hV : V (.bool (decide (v ∈ al))) A) : WF AP KL g 236 [sl, .int .i64 v] A V := by
  rw [WF_body (show KL 236 = none from rfl) (show AP 236 = some F236 from rfl)]
  simp (disch := as_aux_lemma => first | omega | simp only [hDs] <;> omega | simp [isCell]) [hRs, takeMarks, resA, resAll, resOne, Value.cells, F236, hsl.len]
  refine loop236 (v := v) hsl hn ?_ ?_ n 0 (by omega) (fun j hj => absurd hj (by omega)) (by simp) (by simp) (by simp) (by simp)
  · intro T' hm t4
    simp (disch := as_aux_lemma => first | omega | simp only [hDs] <;> omega | simp [isCell]) [hRs, takeMarks, resA, resAll, resOne, Value.cells, t4]
    rw [decide_eq_true hm] at hV; exact hV
  · intro T' hm
    simp (disch := as_aux_lemma => first | omega | simp only [hDs] <;> omega | simp [isCell]) [hRs, takeMarks, resA, resAll, resOne, Value.cells]
    rw [decide_eq_false hm] at hV; exact hV
end
end Go.Ab.Dike
namespace Go.Ab.Dike
open Go Go.Ab
structure LI (R A : Hp) (p : GP) (s : GS) (DD : Nat) (tot t : Int) : Prop where
  gate : GateAt A p s
  fr : ∀ z, z < R.n → A.get z = R.get z
  rl : R.n ≤ p.L
  dd : A.get DD = some (.cells (bools s.d) false)
  dg : p.G < DD
  cl : Closed p.S p.n s.d
  l0 : 0 ≤ s.logs
  lu : s.logs + usedL p.S s.d p.n ≤ 5000
  tt : tot = s.logs + usedL p.S s.d p.n
  tm : s.time ≤ t
structure MI (A : Hp) (p : GP) (es : List Seen) (M1 M2 DD : Nat) : Prop where
  m1 : A.get M1 = some (.map (es.map fun e => (Value.string e.1, Value.bool e.2.2)) none)
  m2 : A.get M2 = some (.map (es.map fun e => (Value.string e.1, Value.string e.2.1)) none)
  g1 : p.G < M1
  g2 : p.G < M2
  ne : M1 ≠ M2
  d1 : M1 ≠ DD
  d2 : M2 ≠ DD
theorem LI.ext {R A A' : Hp} {p : GP} {s : GS} {DD : Nat} {tot t : Int} (h : LI R A p s DD tot t) (he : Ext' A A') : LI R A' p s DD tot t := by
  have := h.gate.lt
  exact ⟨h.gate.ext he, fun z hz => by have := h.rl; rw [he.2 z (by omega), h.fr z hz], h.rl, he.get h.dd, h.dg, h.cl, h.l0, h.lu, h.tt, h.tm⟩
theorem MI.ext {A A' : Hp} {p : GP} {es : List Seen} {M1 M2 DD : Nat} (h : MI A p es M1 M2 DD) (he : Ext' A A') : MI A' p es M1 M2 DD := ⟨he.get h.m1, he.get h.m2, h.g1, h.g2, h.ne, h.d1, h.d2⟩
theorem MI.upd {A A' : Hp} {p : GP} {s : GS} {es : List Seen} {M1 M2 DD : Nat} (h : MI A p es M1 M2 DD) (hG : GateAt A p s) (he : Upd p A A') : MI A' p es M1 M2 DD := by
  have := hG.lt
  have := h.g1
  have := h.g2
  exact ⟨(he.2 M1 (Hp.lt_of_get h.m1) (by omega) (by omega) (by omega)).trans h.m1, (he.2 M2 (Hp.lt_of_get h.m2) (by omega) (by omega) (by omega)).trans h.m2, h.g1, h.g2, h.ne, h.d1, h.d2⟩
theorem LI.next {R A A' : Hp} {p : GP} {s s' : GS} {DD : Nat} {tot tot' t t' : Int} (h : LI R A p s DD tot t) (hG : GateAt A' p s') (hU : Upd p A A') (hd : s'.d = s.d) (l0 : 0 ≤ s'.logs) (lu : s'.logs + usedL p.S s'.d p.n ≤ 5000) (tt : tot' = s'.logs + usedL p.S s'.d p.n) (tm : s'.time ≤ t') : LI R A' p s' DD tot' t' := by
  have := h.gate.lt
  have hdg := h.dg
  have hrl := h.rl
  refine ⟨hG, fun z hz => ?_, h.rl, ?_, h.dg, by rw [hd]; exact h.cl, l0, lu, tt, tm⟩
  · rw [hU.2 z (by omega) (by omega) (by omega) (by omega), h.fr z hz]
  · rw [hU.2 DD (Hp.lt_of_get h.dd) (by omega) (by omega) (by omega), hd]; exact h.dd
abbrev KK : List Nat := [7, 9, 11, 14, 15, 101, 102, 103]
def After (R : Hp) (p : GP) (DD M1 M2 : Nat) (t : Int) (A : Hp) (T T' : List Value) (A' : Hp) : Prop :=
  ∃ (e tot' : Int) (s' : GS) (ch : Bool), KeepT KK T T' ∧ tget T' 18 = .int .i64 e ∧ tget T' 12 = .bool s'.ship ∧ tget T' 13 = .int .i64 tot' ∧ tget T' 19 = .bool ch ∧ LI R A' p s' DD tot' t ∧ KeyOk s'.es ∧ (ch = true ∧ e = 0 → s'.es = []) ∧ (¬ (ch = true ∧ e = 0) → MI A' p s'.es M1 M2 DD) ∧ A.n ≤ A'.n
def body228c : ACode := (.seq
 (.ops [
oB 104 .lss 103 102])
 (.seq
 (.cond (.t 104)
 .skip
 (.exit 2))
 (.seq
 (.block 3
 (.seq
 (.ops [
oM 105 103,
oI 106 101 103 3,
oD 107 106 3,
oP 17 (.alloc [.int .u8 0, .int .u8 0, .int .u8 0]),
oM 16 105,
oT 17 107 3])
 (.seq
 (.ops [
oP 18 (.move (oK 0))])
 (.seq
 (.ops [
oP 19 (.move (.k (.bool true)))])
 (.seq
 (.ops [
oP 108 (.idxA (.t 17) (oK 1) 3 1),
oL 109 108,
oP 110 (.toInt .i64 (.t 109)),
oM 20 110])
 (.seq
 (.ops [
oP 111 (.idxA (.t 17) (oK 2) 3 1),
oL 112 111,
oP 113 (.bin .and (.t 112) (.k (.int .u8 1))),
oP 114 (.bin .eql (.t 113) (.k (.int .u8 1))),
oM 21 114])
 (.seq
 (.seq
 (.ops [
oP 115 (.idxA (.t 17) (oK 0) 3 1),
oL 116 115,
oP 117 (.bin .rem (.t 116) (.k (.int .u8 6)))])
 (.block 4
 (.seq
 (.ops [
oP 148 (.bin .eql (.t 117) (.k (.int .u8 0))),
oM 147 148])
 (.cond (.t 147)
 (.seq
 (.ops [
oM 149 9,
oM 150 21,
oM 151 16,
oA 152 150 [.t 149, .t 150, .t 151] false,
oM 18 152])
 (.seq
 (.ops [
oM 153 18,
oC 154 .eql 153 0])
 (.cond (.t 154)
 (.ops [
oM 155 21,
oM 12 155])
 .skip)))
 (.seq
 (.ops [
oP 157 (.bin .eql (.t 117) (.k (.int .u8 1))),
oM 156 157])
 (.cond (.t 156)
 (.seq
 (.ops [
oM 158 9,
oM 159 20,
oC 160 .rem 159 4,
oM 161 16,
oA 162 233 [.t 158, .t 160, .t 161] false,
oM 18 162])
 (.seq
 (.ops [
oM 163 18,
oC 164 .eql 163 0])
 (.cond (.t 164)
 (.ops [
oM 165 13,
oM 166 20,
oC 167 .rem 166 4,
oB 168 .add 165 167,
oM 13 168])
 .skip)))
 (.seq
 (.seq
 (.ops [
oP 170 (.bin .eql (.t 117) (.k (.int .u8 2))),
oM 169 170])
 (.cond (.t 169)
 .skip
 (.ops [
oP 171 (.bin .eql (.t 117) (.k (.int .u8 3))),
oM 169 171])))
 (.cond (.t 169)
 (.seq
 (.ops [
oM 172 9,
oM 173 20,
oC 174 .rem 173 7,
oM 175 16,
oA 176 147 [.t 172, .t 174, .t 175] false,
oM 18 176])
 (.seq
 (.ops [
oM 177 18,
oC 178 .eql 177 0])
 (.cond (.t 178)
 (.seq
 (.seq
 (.ops [
oM 179 20,
oC 180 .rem 179 7,
oM 181 7,
oP 182 (.len (.t 181)),
oB 183 .geq 180 182,
oM 184 183,
oN 185 184 false 11,
oN 186 184 false 20,
oQ 187 184 false (.bin .rem (.t 186) (oK 7)),
oQ 188 184 false (.idxS (.t 185) (.t 187) 1),
oQ 189 184 false (.load (.t 188) none),
oP 190 (.pick (.t 184) (.k (.bool true)) (.t 189)),
oM 191 190,
oN 192 191 false 7,
oN 193 191 false 20,
oQ 194 191 false (.bin .rem (.t 193) (oK 7)),
oQ 195 191 false (.idxS (.t 192) (.t 194) 7),
oQ 196 191 false (.fieldAddr (.t 195) 5),
oQ 197 191 false (.load (.t 196) none),
oN 198 191 false 197,
oN 199 198 true 12,
oQ 200 191 false (.pick (.t 198) (.t 199) (.k (.bool false))),
oP 201 (.pick (.t 191) (.k (.bool true)) (.t 200))])
 (.cond (.t 201)
 (.seq
 (.ops [
oP 6 (.move (.k (.bool false)))])
 .ret)
 .skip))
 (.ops [
oM 202 11,
oM 203 20,
oC 204 .rem 203 7,
oI 205 202 204 1,
⟨none, none, [], .store (.t 205) (.k (.bool true)) 1⟩]))
 .skip)))
 (.seq
 (.ops [
oP 207 (.bin .eql (.t 117) (.k (.int .u8 4))),
oM 206 207])
 (.cond (.t 206)
 (.seq
 (.ops [
oM 208 9,
oM 209 20,
oC 210 .rem 209 7,
oM 211 16,
oA 212 234 [.t 208, .t 210, .t 211] false,
oM 18 212])
 (.seq
 (.ops [
oM 213 18,
oC 214 .eql 213 0])
 (.cond (.t 214)
 (.seq
 (.seq
 (.ops [
oM 215 20,
oC 216 .rem 215 7,
oM 217 7,
oP 218 (.len (.t 217)),
oB 219 .geq 216 218,
oM 220 219,
oN 221 220 false 11,
oN 222 220 false 20,
oQ 223 220 false (.bin .rem (.t 222) (oK 7)),
oQ 224 220 false (.idxS (.t 221) (.t 223) 1),
oQ 225 220 false (.load (.t 224) none),
oQ 226 220 false (.not (.t 225)),
oP 227 (.pick (.t 220) (.k (.bool true)) (.t 226))])
 (.cond (.t 227)
 (.seq
 (.ops [
oP 6 (.move (.k (.bool false)))])
 .ret)
 .skip))
 (.seq
 (.ops [
oM 228 11,
oM 229 20,
oC 230 .rem 229 7,
oI 231 228 230 1,
⟨none, none, [], .store (.t 231) (.k (.bool false)) 1⟩])
 (.seq
 (.ops [
oM 232 7,
oP 233 (.len (.t 232)),
oP 234 (.move (oK 0))])
 (.block 5
 (.loop
 (.seq
 (.ops [
oB 235 .lss 234 233])
 (.seq
 (.cond (.t 235)
 .skip
 (.exit 5))
 (.seq
 (.block 6
 (.seq
 (.ops [
oM 236 234,
oM 22 236])
 (.seq
 (.ops [
oM 237 7,
oM 238 22,
oI 239 237 238 7,
oF 240 239 1,
oL 241 240,
oP 242 (.len (.t 241)),
oP 243 (.move (oK 0))])
 (.block 7
 (.loop
 (.seq
 (.ops [
oB 244 .lss 243 242])
 (.seq
 (.cond (.t 244)
 .skip
 (.exit 7))
 (.seq
 (.block 8
 (.seq
 (.ops [
oI 245 241 243 1,
oL 246 245,
oM 24 246])
 (.ops [
oM 247 11,
oM 248 22,
oM 249 11,
oM 250 22,
oI 251 249 250 1,
oL 252 251,
oM 253 252,
oN 254 253 true 11,
oN 255 253 true 24,
oQ 256 253 true (.idxS (.t 254) (.t 255) 1),
oQ 257 253 true (.load (.t 256) none),
oP 258 (.pick (.t 253) (.t 257) (.k (.bool false))),
oI 259 247 248 1,
oT 259 258 1])))
 (.ops [
oC 260 .add 243 1,
oM 243 260])))))))))
 (.ops [
oC 261 .add 234 1,
oM 234 261])))))))))
 .skip)))
 (.seq
 (.ops [
oM 118 20,
oC 119 .rem 118 5,
oP 120 (.bin .add (oK 97) (.t 119)),
oP 121 (.toInt .u8 (.t 120)),
oP 122 (.slit 1 1 [.int .u8 0] [(0, .t 121)]),
oP 123 (.toStr (.t 122)),
⟨some 124, none, [], .strOp .add (.k (.string ⟨⟨[119]⟩⟩)) (.t 123)⟩,
oP 125 (.idxA (.t 17) (oK 2) 3 1),
oL 126 125,
oP 127 (.bin .shr (.t 126) (.k (.int .u64 1))),
oP 128 (.bin .rem (.t 127) (.k (.int .u8 3))),
oP 129 (.bin .add (.k (.int .u8 97)) (.t 128)),
oP 130 (.slit 1 1 [.int .u8 0] [(0, .t 129)]),
oP 131 (.toStr (.t 130)),
⟨some 132, none, [], .strOp .add (.k (.string ⟨⟨[99]⟩⟩)) (.t 131)⟩,
oM 25 124,
oM 26 132])
 (.seq
 (.ops [
oM 133 9,
oM 134 25,
oM 135 26,
oM 136 21,
oM 137 16,
oA 138 148 [.t 133, .t 134, .t 135, .t 136, .t 137] false,
oM 18 138])
 (.seq
 (.ops [
oP 19 (.move (.k (.bool false)))])
 (.seq
 (.ops [
oM 139 18,
oC 140 .eql 139 0])
 (.cond (.t 140)
 (.ops [
oM 141 14,
oM 142 25,
oM 143 15,
oM 144 25,
oM 145 21,
oM 146 26,
⟨none, none, [], .mapSet (.t 141) (.t 142) (.t 145) 1⟩,
⟨none, none, [], .mapSet (.t 143) (.t 144) (.t 146) 1⟩])
 .skip)))))))))))))))
 (.seq
 (.seq
 (.ops [
oM 262 19,
oM 263 262,
oN 264 263 true 18,
oQ 265 263 true (.bin .eql (.t 264) (oK 0)),
oP 266 (.pick (.t 263) (.t 265) (.k (.bool false)))])
 (.cond (.t 266)
 (.ops [
oP 267 (.makeM),
oP 268 (.makeM),
oM 14 267,
oM 15 268])
 .skip))
 (.seq
 (.ops [
oM 270 9,
oA 271 149 [.t 270] false,
oM 269 271,
oX 272 269 0,
oX 273 269 1,
oX 274 269 2,
oM 27 272,
oM 28 273,
oM 29 274])
 (.seq
 (.ops [
oP 275 (.makeM),
oP 30 (.move (.k (.bool true))),
oP 31 (.move (.k (.bool false))),
oM 32 275])
 (.seq
 (.seq
 (.ops [
oM 276 11,
oP 277 (.len (.t 276)),
oP 278 (.move (oK 0))])
 (.block 9
 (.loop
 (.seq
 (.ops [
oB 279 .lss 278 277])
 (.seq
 (.cond (.t 279)
 .skip
 (.exit 9))
 (.seq
 (.block 10
 (.seq
 (.ops [
oI 280 276 278 1,
oL 281 280,
oM 34 281])
 (.ops [
oM 282 30,
oM 283 282,
oN 284 283 true 34,
oP 285 (.pick (.t 283) (.t 284) (.k (.bool false))),
oM 30 285])))
 (.ops [
oC 286 .add 278 1,
oM 278 286])))))))
 (.seq
 (.seq
 (.ops [
oM 287 14,
oP 288 (.rangeI (.t 287))])
 (.block 11
 (.loop
 (.seq
 (.ops [
oP 289 (.nextI (.t 288)),
oX 290 289 0])
 (.seq
 (.cond (.t 290)
 .skip
 (.exit 11))
 (.block 12
 (.seq
 (.ops [
oP 291 (.entryI (.t 288)),
oX 292 291 0,
oX 293 291 1,
oM 35 292,
oM 36 293])
 (.seq
 (.ops [
oM 294 31,
oM 295 294,
oN 296 295 false 36,
oQ 297 295 false (.not (.t 296)),
oP 298 (.pick (.t 295) (.k (.bool true)) (.t 297)),
oM 31 298])
 (.ops [
oM 299 32,
oM 300 15,
oM 301 35,
⟨some 302, none, [], .lookup (.t 300) (.t 301) 1 (.string ⟨⟨[]⟩⟩) false⟩,
⟨none, none, [], .mapSet (.t 299) (.t 302) (.k (.bool true)) 1⟩])))))))))
 (.seq
 (.seq
 (.ops [
oM 303 29,
oC 304 .neq 303 0,
oM 305 304,
oN 306 305 false 27,
oN 307 305 false 30,
oN 308 305 false 307,
oN 309 308 true 12,
oQ 310 308 true (.not (.t 309)),
oQ 311 305 false (.pick (.t 308) (.t 310) (.k (.bool false))),
oN 312 305 false 311,
oN 313 312 true 31,
oQ 314 312 true (.not (.t 313)),
oQ 315 305 false (.pick (.t 312) (.t 314) (.k (.bool false))),
oN 316 305 false 315,
oN 317 316 true 32,
oQ 318 316 true (.lenM (.t 317)),
oQ 319 316 true (.bin .geq (.t 318) (oK 2)),
oQ 320 305 false (.pick (.t 316) (.t 319) (.k (.bool false))),
oQ 321 305 false (.beq true (.t 306) (.t 320)),
oP 322 (.pick (.t 305) (.k (.bool true)) (.t 321)),
oM 323 322,
oN 324 323 false 27,
oN 325 323 false 324,
oN 326 325 true 28,
oQ 327 325 true (.len (.t 326)),
oN 328 325 true 14,
oQ 329 325 true (.lenM (.t 328)),
oQ 330 325 true (.bin .neq (.t 327) (.t 329)),
oQ 331 323 false (.pick (.t 325) (.t 330) (.k (.bool false))),
oP 332 (.pick (.t 323) (.k (.bool true)) (.t 331)),
oM 333 332,
oN 334 333 false 27,
oQ 335 333 false (.not (.t 334)),
oN 336 333 false 335,
oN 337 336 true 28,
oQ 338 336 true (.len (.t 337)),
oQ 339 336 true (.bin .neq (.t 338) (oK 0)),
oQ 340 333 false (.pick (.t 336) (.t 339) (.k (.bool false))),
oP 341 (.pick (.t 333) (.k (.bool true)) (.t 340)),
oM 342 341,
oN 343 342 false 27,
oN 344 342 false 343,
oN 345 344 true 19,
oQ 346 342 false (.pick (.t 344) (.t 345) (.k (.bool false))),
oN 347 342 false 346,
oN 348 347 true 18,
oQ 349 347 true (.bin .eql (.t 348) (oK 0)),
oQ 350 342 false (.pick (.t 347) (.t 349) (.k (.bool false))),
oP 351 (.pick (.t 342) (.k (.bool true)) (.t 350))])
 (.cond (.t 351)
 (.seq
 (.ops [
oP 6 (.move (.k (.bool false)))])
 .ret)
 .skip))
 (.seq
 (.ops [
oM 353 9,
oA 354 235 [.t 353] false,
oM 352 354,
oX 355 352 0,
oX 356 352 1,
oM 37 355,
oM 38 356])
 (.seq
 (.ops [
oP 39 (.move (oK 0))])
 (.seq
 (.seq
 (.ops [
oM 357 11,
oP 358 (.len (.t 357)),
oP 359 (.move (oK 0))])
 (.block 13
 (.loop
 (.seq
 (.ops [
oB 360 .lss 359 358])
 (.seq
 (.cond (.t 360)
 .skip
 (.exit 13))
 (.seq
 (.block 14
 (.seq
 (.ops [
oM 361 359,
oI 362 357 359 1,
oL 363 362,
oM 40 361,
oM 41 363])
 (.seq
 (.seq
 (.ops [
oM 364 41])
 (.cond (.t 364)
 (.ops [
oM 365 39,
oM 366 7,
oM 367 40,
oI 368 366 367 7,
oF 369 368 6,
oL 370 369,
oB 371 .add 365 370,
oM 39 371])
 .skip))
 (.seq
 (.ops [
oM 372 41,
oM 373 37,
oM 374 40,
oA 375 236 [.t 373, .t 374] false,
oP 376 (.beq false (.t 372) (.t 375))])
 (.cond (.t 376)
 (.seq
 (.ops [
oP 6 (.move (.k (.bool false)))])
 .ret)
 .skip)))))
 (.ops [
oC 377 .add 359 1,
oM 359 377])))))))
 (.seq
 (.ops [
oM 378 39,
oM 379 38,
oB 380 .add 378 379,
oM 381 13,
oB 382 .neq 380 381])
 (.cond (.t 382)
 (.seq
 (.ops [
oP 6 (.move (.k (.bool false)))])
 .ret)
 .skip))))))))))))))))))
 (.ops [
oC 383 .add 103 1,
oM 103 383]))))
def pa228 : ACode := (.seq
 (.ops [
oM 149 9,
oM 150 21,
oM 151 16,
oA 152 150 [.t 149, .t 150, .t 151] false,
oM 18 152])
 (.seq
 (.ops [
oM 153 18,
oC 154 .eql 153 0])
 (.cond (.t 154)
 (.ops [
oM 155 21,
oM 12 155])
 .skip)))
def pb228 : ACode := (.seq
 (.ops [
oM 158 9,
oM 159 20,
oC 160 .rem 159 4,
oM 161 16,
oA 162 233 [.t 158, .t 160, .t 161] false,
oM 18 162])
 (.seq
 (.ops [
oM 163 18,
oC 164 .eql 163 0])
 (.cond (.t 164)
 (.ops [
oM 165 13,
oM 166 20,
oC 167 .rem 166 4,
oB 168 .add 165 167,
oM 13 168])
 .skip)))
def pc228 : ACode := (.seq
 (.ops [
oM 172 9,
oM 173 20,
oC 174 .rem 173 7,
oM 175 16,
oA 176 147 [.t 172, .t 174, .t 175] false,
oM 18 176])
 (.seq
 (.ops [
oM 177 18,
oC 178 .eql 177 0])
 (.cond (.t 178)
 (.seq
 (.seq
 (.ops [
oM 179 20,
oC 180 .rem 179 7,
oM 181 7,
oP 182 (.len (.t 181)),
oB 183 .geq 180 182,
oM 184 183,
oN 185 184 false 11,
oN 186 184 false 20,
oQ 187 184 false (.bin .rem (.t 186) (oK 7)),
oQ 188 184 false (.idxS (.t 185) (.t 187) 1),
oQ 189 184 false (.load (.t 188) none),
oP 190 (.pick (.t 184) (.k (.bool true)) (.t 189)),
oM 191 190,
oN 192 191 false 7,
oN 193 191 false 20,
oQ 194 191 false (.bin .rem (.t 193) (oK 7)),
oQ 195 191 false (.idxS (.t 192) (.t 194) 7),
oQ 196 191 false (.fieldAddr (.t 195) 5),
oQ 197 191 false (.load (.t 196) none),
oN 198 191 false 197,
oN 199 198 true 12,
oQ 200 191 false (.pick (.t 198) (.t 199) (.k (.bool false))),
oP 201 (.pick (.t 191) (.k (.bool true)) (.t 200))])
 (.cond (.t 201)
 (.seq
 (.ops [
oP 6 (.move (.k (.bool false)))])
 .ret)
 .skip))
 (.ops [
oM 202 11,
oM 203 20,
oC 204 .rem 203 7,
oI 205 202 204 1,
⟨none, none, [], .store (.t 205) (.k (.bool true)) 1⟩]))
 .skip)))
def pd228 : ACode := (.seq
 (.ops [
oM 208 9,
oM 209 20,
oC 210 .rem 209 7,
oM 211 16,
oA 212 234 [.t 208, .t 210, .t 211] false,
oM 18 212])
 (.seq
 (.ops [
oM 213 18,
oC 214 .eql 213 0])
 (.cond (.t 214)
 (.seq
 (.seq
 (.ops [
oM 215 20,
oC 216 .rem 215 7,
oM 217 7,
oP 218 (.len (.t 217)),
oB 219 .geq 216 218,
oM 220 219,
oN 221 220 false 11,
oN 222 220 false 20,
oQ 223 220 false (.bin .rem (.t 222) (oK 7)),
oQ 224 220 false (.idxS (.t 221) (.t 223) 1),
oQ 225 220 false (.load (.t 224) none),
oQ 226 220 false (.not (.t 225)),
oP 227 (.pick (.t 220) (.k (.bool true)) (.t 226))])
 (.cond (.t 227)
 (.seq
 (.ops [
oP 6 (.move (.k (.bool false)))])
 .ret)
 .skip))
 (.seq
 (.ops [
oM 228 11,
oM 229 20,
oC 230 .rem 229 7,
oI 231 228 230 1,
⟨none, none, [], .store (.t 231) (.k (.bool false)) 1⟩])
 (.seq
 (.ops [
oM 232 7,
oP 233 (.len (.t 232)),
oP 234 (.move (oK 0))])
 (.block 5
 (.loop
 (.seq
 (.ops [
oB 235 .lss 234 233])
 (.seq
 (.cond (.t 235)
 .skip
 (.exit 5))
 (.seq
 (.block 6
 (.seq
 (.ops [
oM 236 234,
oM 22 236])
 (.seq
 (.ops [
oM 237 7,
oM 238 22,
oI 239 237 238 7,
oF 240 239 1,
oL 241 240,
oP 242 (.len (.t 241)),
oP 243 (.move (oK 0))])
 (.block 7
 (.loop
 (.seq
 (.ops [
oB 244 .lss 243 242])
 (.seq
 (.cond (.t 244)
 .skip
 (.exit 7))
 (.seq
 (.block 8
 (.seq
 (.ops [
oI 245 241 243 1,
oL 246 245,
oM 24 246])
 (.ops [
oM 247 11,
oM 248 22,
oM 249 11,
oM 250 22,
oI 251 249 250 1,
oL 252 251,
oM 253 252,
oN 254 253 true 11,
oN 255 253 true 24,
oQ 256 253 true (.idxS (.t 254) (.t 255) 1),
oQ 257 253 true (.load (.t 256) none),
oP 258 (.pick (.t 253) (.t 257) (.k (.bool false))),
oI 259 247 248 1,
oT 259 258 1])))
 (.ops [
oC 260 .add 243 1,
oM 243 260])))))))))
 (.ops [
oC 261 .add 234 1,
oM 234 261])))))))))
 .skip)))
def pe228 : ACode := (.seq
 (.ops [
oM 118 20,
oC 119 .rem 118 5,
oP 120 (.bin .add (oK 97) (.t 119)),
oP 121 (.toInt .u8 (.t 120)),
oP 122 (.slit 1 1 [.int .u8 0] [(0, .t 121)]),
oP 123 (.toStr (.t 122)),
⟨some 124, none, [], .strOp .add (.k (.string ⟨⟨[119]⟩⟩)) (.t 123)⟩,
oP 125 (.idxA (.t 17) (oK 2) 3 1),
oL 126 125,
oP 127 (.bin .shr (.t 126) (.k (.int .u64 1))),
oP 128 (.bin .rem (.t 127) (.k (.int .u8 3))),
oP 129 (.bin .add (.k (.int .u8 97)) (.t 128)),
oP 130 (.slit 1 1 [.int .u8 0] [(0, .t 129)]),
oP 131 (.toStr (.t 130)),
⟨some 132, none, [], .strOp .add (.k (.string ⟨⟨[99]⟩⟩)) (.t 131)⟩,
oM 25 124,
oM 26 132])
 (.seq
 (.ops [
oM 133 9,
oM 134 25,
oM 135 26,
oM 136 21,
oM 137 16,
oA 138 148 [.t 133, .t 134, .t 135, .t 136, .t 137] false,
oM 18 138])
 (.seq
 (.ops [
oP 19 (.move (.k (.bool false)))])
 (.seq
 (.ops [
oM 139 18,
oC 140 .eql 139 0])
 (.cond (.t 140)
 (.ops [
oM 141 14,
oM 142 25,
oM 143 15,
oM 144 25,
oM 145 21,
oM 146 26,
⟨none, none, [], .mapSet (.t 141) (.t 142) (.t 145) 1⟩,
⟨none, none, [], .mapSet (.t 143) (.t 144) (.t 146) 1⟩])
 .skip)))))
section
variable {g : Nat} {rd : Option Nat} {T : List Value} {D : List Nat} {A : Hp} {Q : Ex → St → Prop} {V : Value → Hp → Prop} {R : Hp} {p : GP} {s : GS} {DD M1 M2 : Nat} {tot t : Int}
theorem pa228_ok {is : Bool} (hS : SOk p) (h : LI R A p s DD tot t) (hm : MI A p s.es M1 M2 DD) (hk : KeyOk s.es) (hg : g ≤ p.L) (t9 : tget T 9 = .pointer (some ⟨p.G, 0, none⟩)) (t21 : tget T 21 = .bool is) (t16 : tget T 16 = .int .i64 t) (t12 : tget T 12 = .bool s.ship) (t13 : tget T 13 = .int .i64 tot) (t19 : tget T 19 = .bool true)
    (hQ : ∀ T' A', After R p DD M1 M2 t A T T' A' → Q .normal ⟨T', D, A'⟩) : W AP KL g rd pa228 ⟨T, D, A⟩ Q := by
  have hn := hS.n32
  simp (disch := as_aux_lemma => first | omega | simp only [hDs] <;> omega | simp [isCell]) [hRs, takeMarks, resA, resAll, resOne, Value.cells, pa228, t9, t21, t16]
  refine w150_ok h.gate (by omega) hg (fun e A' he hE => ?_) fun A' _ _ _ hU hG' => ?_
  · simp (disch := as_aux_lemma => first | omega | simp only [hDs] <;> omega | simp [isCell]) [hRs, takeMarks, resA, resAll, resOne, Value.cells, he]
    exact hQ _ _ ⟨e, tot, s, true, by simp, by simp, by simp [t12], by simp [t13], by simp [t19], h.ext hE, hk, fun h' => absurd h'.2 he, fun _ => hm.ext hE, hE.1⟩
  · simp (disch := as_aux_lemma => first | omega | simp only [hDs] <;> omega | simp [isCell]) [hRs, takeMarks, resA, resAll, resOne, Value.cells, t21]
    exact hQ _ _ ⟨0, tot, _, true, by simp, by simp, by simp, by simp [t13], by simp [t19], h.next hG' hU rfl h.l0 h.lu h.tt (Int.le_refl _), KeyOk.nil, fun _ => rfl, fun h' => absurd ⟨rfl, rfl⟩ h', hU.1⟩
theorem pb228_ok {n : Int} (hn0 : 0 ≤ n ∧ n ≤ 255) (hS : SOk p) (h : LI R A p s DD tot t) (hm : MI A p s.es M1 M2 DD) (hk : KeyOk s.es) (hg : g ≤ p.L) (t9 : tget T 9 = .pointer (some ⟨p.G, 0, none⟩)) (t20 : tget T 20 = .int .i64 n) (t16 : tget T 16 = .int .i64 t) (t12 : tget T 12 = .bool s.ship) (t13 : tget T 13 = .int .i64 tot) (t19 : tget T 19 = .bool true)
    (hQ : ∀ T' A', After R p DD M1 M2 t A T T' A' → Q .normal ⟨T', D, A'⟩) : W AP KL g rd pb228 ⟨T, D, A⟩ Q := by
  have h0 := h.l0
  have hu := h.lu
  have htt := h.tt
  have hn := hS.n32
  have ub := used_bd (S := p.S) (d := s.d) (n := p.n) hS.lg
  simp (disch := as_aux_lemma => first | omega | simp only [hDs] <;> omega | simp [isCell]) [hRs, takeMarks, resA, resAll, resOne, Value.cells, pb228, t9, t20, t16, binA_rem]
  obtain ⟨k, hkk⟩ : ∃ k, k = n.tmod 4 := ⟨_, rfl⟩
  rw [← hkk]
  refine w233_ok h.gate (by omega) hg (fun e A' he hE => ?_) fun A' _ hb hU hG' => ?_
  · simp (disch := as_aux_lemma => first | omega | simp only [hDs] <;> omega | simp [isCell]) [hRs, takeMarks, resA, resAll, resOne, Value.cells, he]
    exact hQ _ _ ⟨e, tot, s, true, by simp, by simp, by simp [t12], by simp [t13], by simp [t19], h.ext hE, hk, fun h' => absurd h'.2 he, fun _ => hm.ext hE, hE.1⟩
  · have e1 := wrId (n := tot + k) (by omega) (by omega)
    simp (disch := as_aux_lemma => first | omega | simp only [hDs] <;> omega | simp [isCell]) [hRs, takeMarks, resA, resAll, resOne, Value.cells, t13, t20, binA_rem, ← hkk, e1]
    exact hQ _ _ ⟨0, tot + k, _, true, by simp, by simp, by simp [t12], by simp, by simp [t19], h.next hG' hU rfl (by simp only; omega) (by simp only; omega) (by simp only; omega) (Int.le_refl _), KeyOk.nil, fun _ => rfl, fun h' => absurd ⟨rfl, rfl⟩ h', hU.1⟩
theorem pc228_ok {n : Int} {sv : Value} (hn0 : 0 ≤ n ∧ n ≤ 255) (hS : SOk p) (hA : AftOk p.S p.n) (hst : Steps R p.n p.S sv) (h : LI R A p s DD tot t) (hm : MI A p s.es M1 M2 DD) (hk : KeyOk s.es) (hg : g ≤ p.L) (t7 : tget T 7 = sv) (t9 : tget T 9 = .pointer (some ⟨p.G, 0, none⟩)) (t11 : tget T 11 = .slice (some ⟨DD, 0, some 1⟩) p.n p.n) (t20 : tget T 20 = .int .i64 n) (t16 : tget T 16 = .int .i64 t) (t12 : tget T 12 = .bool s.ship) (t13 : tget T 13 = .int .i64 tot) (t19 : tget T 19 = .bool true)
    (hQ : ∀ T' A', After R p DD M1 M2 t A T T' A' → Q .normal ⟨T', D, A'⟩) : W AP KL g rd pc228 ⟨T, D, A⟩ Q := by
  have h0 := h.l0
  have hu := h.lu
  have htt := h.tt
  have hn := hS.n32
  have ub := used_bd (S := p.S) (d := s.d) (n := p.n) hS.lg
  have hlt := h.gate.lt
  have hdg := h.dg
  have hrl := h.rl
  simp (disch := as_aux_lemma => first | omega | simp only [hDs] <;> omega | simp [isCell]) [hRs, takeMarks, resA, resAll, resOne, Value.cells, pc228, t9, t20, t16, binA_rem]
  obtain ⟨k, hkk⟩ : ∃ k, k = n.tmod 7 := ⟨_, rfl⟩
  rw [← hkk]
  refine w147_ok h.gate hS (by omega) hg (fun e A' he hE => ?_) fun A' j _ hkj hj hdj haf hcs hlg hU hG' => ?_
  · simp (disch := as_aux_lemma => first | omega | simp only [hDs] <;> omega | simp [isCell]) [hRs, takeMarks, resA, resAll, resOne, Value.cells, he]
    exact hQ _ _ ⟨e, tot, s, true, by simp, by simp, by simp [t12], by simp [t13], by simp [t19], h.ext hE, hk, fun h' => absurd h'.2 he, fun _ => hm.ext hE, hE.1⟩
  · have nU := hU.1
    have hfr : ∀ z, z < R.n → A'.get z = R.get z := fun z hz => by rw [hU.2 z (by omega) (by omega) (by omega) (by omega), h.fr z hz]
    have hDn := Hp.lt_of_get h.dd
    have hdd : A'.get DD = some (.cells (bools s.d) false) := (hU.2 DD hDn (by omega) (by omega) (by omega)).trans h.dd
    obtain ⟨m, hm'⟩ : ∃ m, m = p.n := ⟨_, rfl⟩
    have hst' : Steps A' m p.S sv := by rw [hm']; exact hst.mono hfr
    obtain ⟨x, c, ro, cells, rfl, hx, hcl, hat⟩ := hst'.at (i := j) (by omega)
    obtain ⟨a, p1, p2, p3, p4, p5, p6, p7, p8, p9, ra⟩ := hat j (by omega)
    have hdl := h.gate.dl
    have hb := gb_at (l := s.d) (i := j) (by omega)
    rw [hdj] at hb
    rw [← hm'] at t11 hj hdl
    have hjm : (j : Int) < m := by omega
    have st1 : storeB (some (.cells (bools s.d) false)) g A' DD j [.bool true] 1 = some (undef, A'.set DD (some (.cells (bools (s.d.set j true)) false))) := by
      have := storeB_cells (A := A') (g := g) (k := DD) (o := j) (size := 1) (cs := bools s.d) (vs := [.bool true]) rfl (by omega) (by rw [bools_len]; omega) rfl
      rwa [setRange_bools (by omega)] at this
    have fin : ∀ T', KeepT KK T T' → tget T' 18 = .int .i64 0 → tget T' 12 = .bool s.ship → tget T' 13 = .int .i64 tot → tget T' 19 = .bool true → Q .normal ⟨T', D, A'.set DD (some (.cells (bools (s.d.set j true)) false))⟩ := by
      intro T' kk u18 u12 u13 u19
      have hne : ∀ (b' : Option ABlk) z, z ≠ DD → (A'.set DD b').get z = A'.get z := fun b' z hz => get_set_ne (by omega) hz
      have us := used_set (S := p.S) (d := s.d) (b := true) (i := j) (by omega) p.n
      rw [if_pos (by omega), hdj] at us
      simp only [Bool.false_eq_true, if_false, if_true] at us
      have hG2 := hG'.lt
      refine hQ _ _ ⟨0, tot, { s with d := s.d.set j true, logs := s.logs - (p.S j).logs, es := [], time := t }, true, kk, u18, u12, u13, u19, ⟨⟨hG'.st.keep fun z hz => hne _ z (by omega), (hne _ _ (by omega)).trans hG'.hg, (hne _ _ (by omega)).trans hG'.hd, hG'.dl, (hne _ _ (by omega)).trans hG'.hm, hG'.ord⟩, fun z hz => ?_, h.rl, get_set_same hdd, h.dg, ?_, ?_, ?_, ?_, Int.le_refl _⟩, KeyOk.nil, fun _ => rfl, fun h' => absurd ⟨rfl, rfl⟩ h', by simp; omega⟩
      · rw [hne _ z (by omega), hfr z hz]
      · exact h.cl.set hA (by omega) (by omega) haf
      · simp only; omega
      · simp only; omega
      · simp only; omega
    subst hkj
    cases hcr : (p.S j).clear with
    | false =>
      rw [hcr] at p8
      simp (disch := as_aux_lemma => first | omega | simp only [hDs] <;> omega | simp [isCell]) [hRs, takeMarks, resA, resAll, resOne, Value.cells, t7, t11, t20, binA_rem, ← hkk, show ¬ (m : Int) ≤ j by omega, hjm, idxSA_ok, hdd, hb, hx, p8, st1]
      exact fin _ (by simp) (by simp) (by simp [t12]) (by simp [t13]) (by simp [t19])
    | true =>
      rw [hcr] at p8 hcs
      have hsh : s.ship = false := by simpa using hcs
      simp (disch := as_aux_lemma => first | omega | simp only [hDs] <;> omega | simp [isCell]) [hRs, takeMarks, resA, resAll, resOne, Value.cells, t7, t11, t20, t12, hsh, binA_rem, ← hkk, show ¬ (m : Int) ≤ j by omega, hjm, idxSA_ok, hdd, hb, hx, p8, st1]
      exact fin _ (by simp) (by simp) (by simp [t12]) (by simp [t13]) (by simp [t19])
end
end Go.Ab.Dike
namespace Go.Ab.Dike
open Go Go.Ab
def aftQ (S : Nat → StepT) (d : List Bool) (i q : Nat) : Bool := (List.range q).all fun k => gb d (gi (S i).al k).toNat
theorem aftQ_succ (S : Nat → StepT) (d : List Bool) (i q : Nat) : aftQ S d i (q + 1) = (aftQ S d i q && gb d (gi (S i).al q).toNat) := by
  unfold aftQ
  rw [List.range_succ, List.all_append]
  simp
theorem set_gb {d : List Bool} {i : Nat} : d.set i (gb d i) = d := by
  apply gb_ext (by simp)
  intro k
  by_cases h : i < d.length
  · rw [gb_set h]
    split
    · rename_i h; rw [h]
    · rfl
  · rw [List.set_eq_of_length_le (by omega)]
def body228d : ACode := (.seq
 (.ops [
oB 235 .lss 234 233])
 (.seq
 (.cond (.t 235)
 .skip
 (.exit 5))
 (.seq
 (.block 6
 (.seq
 (.ops [
oM 236 234,
oM 22 236])
 (.seq
 (.ops [
oM 237 7,
oM 238 22,
oI 239 237 238 7,
oF 240 239 1,
oL 241 240,
oP 242 (.len (.t 241)),
oP 243 (.move (oK 0))])
 (.block 7
 (.loop
 (.seq
 (.ops [
oB 244 .lss 243 242])
 (.seq
 (.cond (.t 244)
 .skip
 (.exit 7))
 (.seq
 (.block 8
 (.seq
 (.ops [
oI 245 241 243 1,
oL 246 245,
oM 24 246])
 (.ops [
oM 247 11,
oM 248 22,
oM 249 11,
oM 250 22,
oI 251 249 250 1,
oL 252 251,
oM 253 252,
oN 254 253 true 11,
oN 255 253 true 24,
oQ 256 253 true (.idxS (.t 254) (.t 255) 1),
oQ 257 253 true (.load (.t 256) none),
oP 258 (.pick (.t 253) (.t 257) (.k (.bool false))),
oI 259 247 248 1,
oT 259 258 1])))
 (.ops [
oC 260 .add 243 1,
oM 243 260])))))))))
 (.ops [
oC 261 .add 234 1,
oM 234 261]))))
abbrev KL2 : List Nat := [7, 9, 11, 12, 13, 14, 15, 16, 18, 19, 101, 102, 103]
section
variable {g : Nat} {rd : Option Nat} {T : List Value} {D : List Nat} {A : Hp} {Q : Ex → St → Prop} {V : Value → Hp → Prop} {R : Hp} {p : GP} {s : GS} {DD M1 M2 : Nat} {tot t : Int}
theorem loop228e {A0 : Hp} {n an i : Nat} {S : Nat → StepT} {e : List Bool} {a : Value} (hne : e.length = n) (hin : i < n) (ha : ∀ A, (∀ z, z ≠ DD → A.get z = A0.get z) → RdS A 1 an (ints (S i).al) a) (han : an = (S i).an) (hal : ∀ q, q < an → 0 ≤ gi (S i).al q ∧ gi (S i).al q < i) (hnn : n ≤ 1000) (hal2 : an ≤ 1000000) (hg : g ≤ DD)
    (hQ : ∀ T' A', KeepT (22 :: 232 :: 233 :: 234 :: KL2) T T' → A'.get DD = some (.cells (bools (e.set i (gb e i && aftQ S e i an))) false) → A'.n = A0.n → (∀ z, z ≠ DD → A'.get z = A0.get z) → Q (.exit 7) ⟨T', D, A'⟩) (t11 : tget T 11 = .slice (some ⟨DD, 0, some 1⟩) n n) (t22 : tget T 22 = .int .i64 i) :
    ∀ (r q : Nat) {T1 : List Value} {A : Hp}, q + r = an → KeepT (22 :: 232 :: 233 :: 234 :: KL2) T T1 → tget T1 241 = a → tget T1 242 = .int .i64 an → tget T1 243 = .int .i64 q → A.get DD = some (.cells (bools (e.set i (gb e i && aftQ S e i q))) false) → A.n = A0.n → (∀ z, z ≠ DD → A.get z = A0.get z) → W AP KL g rd (.loop body228e) ⟨T1, D, A⟩ Q := by
  intro r
  induction r with
  | zero =>
    intro q T1 A hqr hk t241 t242 t243 hd hn ho
    have : q = an := by omega
    subst this
    rw [W_loop]
    simp (disch := as_aux_lemma => first | omega | simp only [hDs] <;> omega | simp [isCell]) [hRs, takeMarks, resA, resAll, resOne, Value.cells, body228e, t242, t243]
    exact hQ _ _ (hk.trans (by simp)) hd hn ho
  | succ r ih =>
    intro q T1 A hqr hk t241 t242 t243 hd hn ho
    have u11 := (hk.at 11 rfl).trans t11
    have u22 := (hk.at 22 rfl).trans t22
    have hra := ha A ho
    have hrl := hra.1
    rw [ints_length] at hrl
    obtain ⟨x, c, ro, rfl, hx⟩ := hra.at (i := q) (by omega)
    obtain ⟨a0, a1⟩ := hal q (by omega)
    obtain ⟨k, hk'⟩ : ∃ k : Nat, gi (S i).al q = (k : Int) := ⟨(gi (S i).al q).toNat, by omega⟩
    have hpa := ints_get (l := (S i).al) (o := q) (by omega)
    rw [hk'] at hpa a1
    have e1 := wrId (n := (q : Int) + 1) (by omega) (by omega)
    obtain ⟨c, hc⟩ : ∃ c, c = e.set i (gb e i && aftQ S e i q) := ⟨_, rfl⟩
    rw [← hc] at hd
    have hcl : c.length = n := by rw [hc, List.length_set]; exact hne
    have hci : gb c i = (gb e i && aftQ S e i q) := by rw [hc, gb_set (by omega), if_pos rfl]
    have hck : gb c k = gb e k := by rw [hc, gb_set (by omega), if_neg (by omega)]
    have hbi := gb_at (l := c) (i := i) (by omega)
    have hbk := gb_at (l := c) (i := k) (by omega)
    have hnext : aftQ S e i (q + 1) = (aftQ S e i q && gb e k) := by rw [aftQ_succ, hk', Int.toNat_natCast]
    have hset : ∀ b, (c.set i b) = e.set i b := fun b => by rw [hc, List.set_set]
    have st : ∀ b : Bool, storeB (some (.cells (bools c) false)) g A DD i [.bool b] 1 = some (undef, A.set DD (some (.cells (bools (c.set i b)) false))) := fun b => by
      have := storeB_cells (A := A) (g := g) (k := DD) (o := i) (size := 1) (cs := bools c) (vs := [.bool b]) rfl (by omega) (by rw [bools_len]; omega) rfl
      rwa [setRange_bools (by omega)] at this
    have hii : (i : Int) < n := by omega
    have hki : (k : Int) < n := by omega
    have hDn := Hp.lt_of_get hd
    rw [W_loop]
    cases c1 : gb c i with
    | false =>
      rw [c1] at hbi
      simp (disch := as_aux_lemma => first | omega | simp only [hDs] <;> omega | simp [isCell]) [hRs, takeMarks, resA, resAll, resOne, Value.cells, body228e, t241, t242, t243, show ((q : Int) < an) by omega, idxSA_ok, hx, hpa, u11, u22, hii, hd, hbi, st]
      refine ih (q + 1) (by omega) (hk.trans (by simp)) (by simp [t241]) (by simp [t242]) (by simp [e1, t243]) ?_ (by simp [hn]) fun z hz => by rw [get_set_ne hDn hz, ho z hz]
      rw [get_set_same hd, hset, hnext, ← Bool.and_assoc, ← hci, c1, Bool.false_and]
    | true =>
      rw [c1] at hbi
      cases c2 : gb c k with
      | false =>
        rw [c2] at hbk
        simp (disch := as_aux_lemma => first | omega | simp only [hDs] <;> omega | simp [isCell]) [hRs, takeMarks, resA, resAll, resOne, Value.cells, body228e, t241, t242, t243, show ((q : Int) < an) by omega, idxSA_ok, hx, hpa, u11, u22, hii, hki, hd, hbi, hbk, st]
        refine ih (q + 1) (by omega) (hk.trans (by simp)) (by simp [t241]) (by simp [t242]) (by simp [e1, t243]) ?_ (by simp [hn]) fun z hz => by rw [get_set_ne hDn hz, ho z hz]
        rw [get_set_same hd, hset, hnext, ← hck, c2, Bool.and_false, Bool.and_false]
      | true =>
        rw [c2] at hbk
        simp (disch := as_aux_lemma => first | omega | simp only [hDs] <;> omega | simp [isCell]) [hRs, takeMarks, resA, resAll, resOne, Value.cells, body228e, t241, t242, t243, show ((q : Int) < an) by omega, idxSA_ok, hx, hpa, u11, u22, hii, hki, hd, hbi, hbk, st]
        refine ih (q + 1) (by omega) (hk.trans (by simp)) (by simp [t241]) (by simp [t242]) (by simp [e1, t243]) ?_ (by simp [hn]) fun z hz => by rw [get_set_ne hDn hz, ho z hz]
        rw [get_set_same hd, hset, hnext, ← Bool.and_assoc, ← hci, c1, ← hck, c2]; rfl
theorem loop228d {A0 : Hp} {n : Nat} {S : Nat → StepT} {d0 : List Bool} {sv : Value} (hl : d0.length = n) (hA : AftOk S n) (hst : ∀ A, (∀ z, z ≠ DD → A.get z = A0.get z) → Steps A n S sv) (hnn : n ≤ 1000) (han : ∀ i, i < n → (S i).an < 1000000) (hg : g ≤ DD)
    (hQ : ∀ T' A', KeepT KL2 T T' → A'.get DD = some (.cells (bools (passN S d0 n)) false) → A'.n = A0.n → (∀ z, z ≠ DD → A'.get z = A0.get z) → Q (.exit 5) ⟨T', D, A'⟩) (t7 : tget T 7 = sv) (t11 : tget T 11 = .slice (some ⟨DD, 0, some 1⟩) n n) :
    ∀ (r i : Nat) {T1 : List Value} {A : Hp}, i + r = n → KeepT KL2 T T1 → tget T1 233 = .int .i64 n → tget T1 234 = .int .i64 i → A.get DD = some (.cells (bools (passN S d0 i)) false) → A.n = A0.n → (∀ z, z ≠ DD → A.get z = A0.get z) → W AP KL g rd (.loop body228d) ⟨T1, D, A⟩ Q := by
  intro r
  induction r with
  | zero =>
    intro i T1 A hir hk t233 t234 hd hn ho
    have : i = n := by omega
    subst this
    rw [W_loop]
    simp (disch := as_aux_lemma => first | omega | simp only [hDs] <;> omega | simp [isCell]) [hRs, takeMarks, resA, resAll, resOne, Value.cells, body228d, t233, t234]
    exact hQ _ _ (hk.trans (by simp)) hd hn ho
  | succ r ih =>
    intro i T1 A hir hk t233 t234 hd hn ho
    have u7 := (hk.at 7 rfl).trans t7
    have u11 := (hk.at 11 rfl).trans t11
    obtain ⟨x, c, ro, cells, rfl, hx, hcl, hat⟩ := (hst A ho).at (i := i) (by omega)
    obtain ⟨a, p1, p2, p3, p4, p5, p6, p7, p8, p9, ra⟩ := hat i (by omega)
    have hla := ra.len
    have hin : i < n := by omega
    have e1 := wrId (n := (i : Int) + 1) (by omega) (by omega)
    rw [W_loop]
    simp (disch := as_aux_lemma => first | omega | simp only [hDs] <;> omega | simp [isCell]) [hRs, takeMarks, resA, resAll, resOne, Value.cells, body228d, t233, t234, show ((i : Int) < n) by omega, u7, idxSA_ok, hx, p3, hla]
    refine loop228e (DD := DD) (A0 := A) (n := n) (an := (S i).an) (i := i) (S := S) (e := passN S d0 i) (a := a) (by rw [passN_length]; exact hl) hin (fun A' hA' => ?_) rfl (hA.aa i hin) hnn (by have := han i hin; omega) hg ?_ (T := _) ?_ ?_ (S i).an 0 (by omega) (fun _ _ => rfl) (by simp) (by simp) (by simp) ?_ rfl (fun _ _ => rfl)
    · obtain ⟨cells', hr', hat'⟩ := hst A' fun z hz => by rw [hA' z hz, ho z hz]
      obtain ⟨hr1, ⟨h0, _⟩ | ⟨x', c', ro', hsl, hx'⟩⟩ := hr'
      · cases h0
      · cases hsl
        have hxd : x ≠ DD := by
          intro h; subst h
          rw [hd] at hx
          cases hx
          have h1 : (bools (passN S d0 i))[i * 7]? = some (.string (S i).name) := p2
          simp [bools] at h1
        rw [hA' x hxd, hx] at hx'
        cases hx'
        obtain ⟨a', q1, q2, q3, q4, q5, q6, q7, q8, q9, ra'⟩ := hat' i hin
        rw [p3] at q3
        cases q3
        exact ra'
    · intro T2 A2 k2 hd2 hn2 ho2
      have w7 := k2.at 7 rfl
      have w233 := k2.at 233 rfl
      have w234 := k2.at 234 rfl
      simp [t233, t234] at w233 w234
      simp (disch := as_aux_lemma => first | omega | simp only [hDs] <;> omega | simp [isCell]) [hRs, takeMarks, resA, resAll, resOne, Value.cells, w234]
      refine ih (i + 1) (by omega) ?_ (by simp [w233]) (by simp [e1]) hd2 (by omega) fun z hz => by rw [ho2 z hz, ho z hz]
      simp [k2.at 7 rfl, k2.at 9 rfl, k2.at 11 rfl, k2.at 12 rfl, k2.at 13 rfl, k2.at 14 rfl, k2.at 15 rfl, k2.at 16 rfl, k2.at 18 rfl, k2.at 19 rfl, k2.at 101 rfl, k2.at 102 rfl, k2.at 103 rfl, hk.at 7 rfl, hk.at 9 rfl, hk.at 11 rfl, hk.at 12 rfl, hk.at 13 rfl, hk.at 14 rfl, hk.at 15 rfl, hk.at 16 rfl, hk.at 18 rfl, hk.at 19 rfl, hk.at 101 rfl, hk.at 102 rfl, hk.at 103 rfl]
    · simp [u11]
    · simp
    · have : aftQ S (passN S d0 i) i 0 = true := rfl
      rw [this, Bool.and_true, set_gb]; exact hd
end
end Go.Ab.Dike
namespace Go.Ab.Dike
open Go Go.Ab
theorem strAdd_w {i : Nat} : strOpA .add (.string ⟨⟨[119]⟩⟩) (.string ⟨⟨[chrOf i]⟩⟩) = some (.string ⟨⟨[119, chrOf i]⟩⟩) := rfl
theorem strAdd_c {i : Nat} : strOpA .add (.string ⟨⟨[99]⟩⟩) (.string ⟨⟨[chrOf i]⟩⟩) = some (.string ⟨⟨[99, chrOf i]⟩⟩) := rfl
theorem binA_rem8 {a b : Int} (h : b ≠ 0) : binA .rem (.int .u8 a) (.int .u8 b) = some (.int .u8 (a.tmod b)) := by simp [binA, intA, kEq, h]
theorem binA_add8 {a b : Int} : binA .add (.int .u8 a) (.int .u8 b) = some (.int .u8 (wr .u8 (a + b))) := rfl
theorem shr8_rng {a : Int} (h : 0 ≤ a ∧ a ≤ 255) : 0 ≤ shr8 a 1 ∧ shr8 a 1 ≤ 255 := by
  unfold shr8
  have e : (2 : Int) ^ (min 1 8) = 2 := by decide
  rw [e, Int.fdiv_eq_ediv_of_nonneg a (by decide)]
  omega
section
variable {g : Nat} {rd : Option Nat} {T : List Value} {D : List Nat} {A : Hp} {Q : Ex → St → Prop} {V : Value → Hp → Prop} {R : Hp} {p : GP} {s : GS} {DD M1 M2 : Nat} {tot t : Int}
theorem pd228_ok {n : Int} {sv : Value} (hn0 : 0 ≤ n ∧ n ≤ 255) (hS : SOk p) (hA : AftOk p.S p.n) (hst : Steps R p.n p.S sv) (h : LI R A p s DD tot t) (hm : MI A p s.es M1 M2 DD) (hk : KeyOk s.es) (hg : g ≤ p.L) (t7 : tget T 7 = sv) (t9 : tget T 9 = .pointer (some ⟨p.G, 0, none⟩)) (t11 : tget T 11 = .slice (some ⟨DD, 0, some 1⟩) p.n p.n) (t20 : tget T 20 = .int .i64 n) (t16 : tget T 16 = .int .i64 t) (t12 : tget T 12 = .bool s.ship) (t13 : tget T 13 = .int .i64 tot) (t19 : tget T 19 = .bool true)
    (hQ : ∀ T' A', After R p DD M1 M2 t A T T' A' → Q .normal ⟨T', D, A'⟩) : W AP KL g rd pd228 ⟨T, D, A⟩ Q := by
  have h0 := h.l0
  have hu := h.lu
  have htt := h.tt
  have hn := hS.n32
  have hlt := h.gate.lt
  have hdg := h.dg
  have hrl := h.rl
  simp (disch := as_aux_lemma => first | omega | simp only [hDs] <;> omega | simp [isCell]) [hRs, takeMarks, resA, resAll, resOne, Value.cells, pd228, t9, t20, t16, binA_rem]
  obtain ⟨k, hkk⟩ : ∃ k, k = n.tmod 7 := ⟨_, rfl⟩
  rw [← hkk]
  refine w234_ok h.gate hS h0 (by omega) hg (fun e A' he hE => ?_) fun A' j d' lg' _ hkj hj hdj hR hlg hle hU hG' => ?_
  · simp (disch := as_aux_lemma => first | omega | simp only [hDs] <;> omega | simp [isCell]) [hRs, takeMarks, resA, resAll, resOne, Value.cells, he]
    exact hQ _ _ ⟨e, tot, s, true, by simp, by simp, by simp [t12], by simp [t13], by simp [t19], h.ext hE, hk, fun h' => absurd h'.2 he, fun _ => hm.ext hE, hE.1⟩
  · have nU := hU.1
    have hfr : ∀ z, z < R.n → A'.get z = R.get z := fun z hz => by rw [hU.2 z (by omega) (by omega) (by omega) (by omega), h.fr z hz]
    have hDn := Hp.lt_of_get h.dd
    have hdd : A'.get DD = some (.cells (bools s.d) false) := (hU.2 DD hDn (by omega) (by omega) (by omega)).trans h.dd
    obtain ⟨m, hm'⟩ : ∃ m, m = p.n := ⟨_, rfl⟩
    have hst' : Steps A' m p.S sv := by rw [hm']; exact hst.mono hfr
    have hlen := hst'.len
    have hdl := h.gate.dl
    have hb := gb_at (l := s.d) (i := j) (by omega)
    rw [hdj] at hb
    have t11' := t11
    rw [← hm'] at t11' hj hdl
    have hjm : (j : Int) < m := by omega
    have st1 : storeB (some (.cells (bools s.d) false)) g A' DD j [.bool false] 1 = some (undef, A'.set DD (some (.cells (bools (s.d.set j false)) false))) := by
      have := storeB_cells (A := A') (g := g) (k := DD) (o := j) (size := 1) (cs := bools s.d) (vs := [.bool false]) rfl (by omega) (by rw [bools_len]; omega) rfl
      rwa [setRange_bools (by omega)] at this
    obtain ⟨A2, hA2⟩ : ∃ A2, A2 = A'.set DD (some (.cells (bools (s.d.set j false)) false)) := ⟨_, rfl⟩
    rw [← hA2] at st1
    have hA2n : A2.n = A'.n := by rw [hA2]; rfl
    have o2 : ∀ z, z ≠ DD → A2.get z = A'.get z := fun z hz => by rw [hA2]; exact get_set_ne (by omega) hz
    have hd2 : A2.get DD = some (.cells (bools (s.d.set j false)) false) := by rw [hA2]; exact get_set_same hdd
    subst hkj
    simp (disch := as_aux_lemma => first | omega | simp only [hDs] <;> omega | simp [isCell]) [hRs, takeMarks, resA, resAll, resOne, Value.cells, t7, t11', t20, binA_rem, ← hkk, hlen, show ¬ (m : Int) ≤ j by omega, hjm, idxSA_ok, hdd, hb, st1]
    refine loop228d (DD := DD) (A0 := A2) (n := m) (S := p.S) (d0 := s.d.set j false) (sv := sv) (by rw [List.length_set]; omega) (by rw [hm']; exact hA) (fun A3 hA3 => by rw [hm']; exact hst.mono fun z hz => by rw [hA3 z (by omega), o2 z (by omega), hfr z hz]) (by omega) (fun i hi => hS.an i (by omega)) (by omega) ?_ (T := _) ?_ ?_ m 0 (by omega) (fun _ _ => rfl) (by simp) (by simp) hd2 rfl (fun _ _ => rfl)
    · intro T3 A3 k3 hd3 hn3 ho3
      have w12 := k3.at 12 rfl
      have w13 := k3.at 13 rfl
      have w18 := k3.at 18 rfl
      have w19 := k3.at 19 rfl
      simp [t12, t13, t19] at w12 w13 w18 w19
      have hpe := pass_eq hA (n := p.n) (by omega) (by omega) h.cl hR
      rw [hm', hpe] at hd3
      have o3 : ∀ z, z ≠ DD → A3.get z = A'.get z := fun z hz => by rw [ho3 z hz, o2 z hz]
      have hG2 := hG'.lt
      have ub := used_bd (S := p.S) (d := d') (n := p.n) hS.lg
      simp (disch := as_aux_lemma => first | omega | simp only [hDs] <;> omega | simp [isCell]) [hRs, takeMarks, resA, resAll, resOne, Value.cells]
      refine hQ _ _ ⟨0, tot, { s with d := d', logs := lg', es := [], time := t }, true, ?_, w18, w12, w13, w19, ⟨⟨hG'.st.keep fun z hz => o3 z (by omega), (o3 _ (by omega)).trans hG'.hg, (o3 _ (by omega)).trans hG'.hd, hG'.dl, (o3 _ (by omega)).trans hG'.hm, hG'.ord⟩, fun z hz => by rw [o3 z (by omega), hfr z hz], h.rl, hd3, h.dg, hR.closed h.cl, by simp only; omega, by simp only; omega, by simp only; omega, Int.le_refl _⟩, KeyOk.nil, fun _ => rfl, fun h' => absurd ⟨rfl, rfl⟩ h', by omega⟩
      simp [k3.at 7 rfl, k3.at 9 rfl, k3.at 11 rfl, k3.at 14 rfl, k3.at 15 rfl, k3.at 101 rfl, k3.at 102 rfl, k3.at 103 rfl]
    · simp [t7]
    · simp [t11']
theorem pe228_ok {n c0 c2 : Int} {X17 : Nat} {is : Bool} (hn0 : 0 ≤ n ∧ n ≤ 255) (hc2 : 0 ≤ c2 ∧ c2 ≤ 255) (h17 : A.get X17 = some (.cells [.int .u8 c0, .int .u8 n, .int .u8 c2] false)) (h : LI R A p s DD tot t) (hm : MI A p s.es M1 M2 DD) (hk : KeyOk s.es) (hg : g ≤ p.L) (t17 : tget T 17 = .pointer (some ⟨X17, 0, none⟩)) (t9 : tget T 9 = .pointer (some ⟨p.G, 0, none⟩)) (t14 : tget T 14 = .map (some M1)) (t15 : tget T 15 = .map (some M2)) (t20 : tget T 20 = .int .i64 n) (t21 : tget T 21 = .bool is) (t16 : tget T 16 = .int .i64 t) (t12 : tget T 12 = .bool s.ship) (t13 : tget T 13 = .int .i64 tot)
    (hQ : ∀ T' A', After R p DD M1 M2 t A T T' A' → Q .normal ⟨T', D, A'⟩) : W AP KL g rd pe228 ⟨T, D, A⟩ Q := by
  have hlt := h.gate.lt
  have hdg := h.dg
  have hrl := h.rl
  obtain ⟨i, hi⟩ : ∃ i : Nat, n.tmod 5 = (i : Int) := ⟨(n.tmod 5).toNat, by have := Int.tmod_nonneg 5 hn0.1; omega⟩
  have hi5 : i < 5 := by have := Int.tmod_lt_of_pos n (b := 5) (by decide); omega
  have hsr := shr8_rng hc2
  obtain ⟨q, hq⟩ : ∃ q : Nat, (shr8 c2 1).tmod 3 = (q : Int) := ⟨((shr8 c2 1).tmod 3).toNat, by have := Int.tmod_nonneg 3 hsr.1; omega⟩
  have hq3 : q < 3 := by have := Int.tmod_lt_of_pos (shr8 c2 1) (b := 3) (by decide); omega
  have f1 := wrId (n := 97 + (i : Int)) (by omega) (by omega)
  have f2 := wr8 (n := 97 + (i : Int)) (by omega) (by omega)
  have f3 := wr8 (n := 97 + (q : Int)) (by omega) (by omega)
  have hsh : binA .shr (.int .u8 c2) (.int .u64 1) = some (.int .u8 (shr8 c2 1)) := binA_shr8 (k := 1)
  obtain ⟨B, hB⟩ : ∃ B, B = A.push (.cells [.int .u8 (97 + (i : Int))] false) := ⟨_, rfl⟩
  have hBn : B.n = A.n + 1 := by rw [hB]; rfl
  have eB : Ext' A B := by rw [hB]; exact Ext'.push A _
  obtain ⟨C, hC⟩ : ∃ C, C = B.push (.cells [.int .u8 (97 + (q : Int))] false) := ⟨_, rfl⟩
  have hCn : C.n = B.n + 1 := by rw [hC]; rfl
  have eC : Ext' B C := by rw [hC]; exact Ext'.push B _
  have ts1 := toStr_one (A := A) (i := i) (ro := false) (by omega)
  have ts2 := toStr_one (A := B) (i := q) (ro := false) (by omega)
  rw [← hB] at ts1
  rw [← hC] at ts2
  have h17B := eB.get h17
  have sw := strAdd_w (i := i)
  have sc := strAdd_c (i := q)
  simp (disch := as_aux_lemma => first | omega | simp only [hDs] <;> omega | simp [isCell]) [hRs, takeMarks, resA, resAll, resOne, Value.cells, pe228, t20, binA_rem, hi, f1, f2, toIntA, slitA, fillA, setRange, ← hB, ts1, sw, t17, idxAA_ok, h17B, hsh, binA_rem8, hq, binA_add8, f3, ← hC, ts2, sc]
  obtain ⟨w, hw⟩ : ∃ w : ByteArray, w = ⟨⟨[119, chrOf i]⟩⟩ := ⟨_, rfl⟩
  obtain ⟨c, hc⟩ : ∃ c : ByteArray, c = ⟨⟨[99, chrOf q]⟩⟩ := ⟨_, rfl⟩
  have hw' : (⟨⟨[119, chrOf i]⟩⟩ : ByteArray) = w := hw.symm
  have hc' : (⟨⟨[99, chrOf q]⟩⟩ : ByteArray) = c := hc.symm
  have ww : w.size < 1000000 := by rw [hw]; show 2 < 1000000; omega
  have cc : c.size < 1000000 := by rw [hc]; show 2 < 1000000; omega
  simp (disch := as_aux_lemma => first | omega | simp only [hDs] <;> omega | simp [isCell]) [hRs, takeMarks, resA, resAll, resOne, Value.cells, hw', hc', t9, t21, t16]
  have eAC := eB.trans eC
  have nAC := eAC.1
  refine w148_ok (h.gate.ext eAC) ww cc hg (fun e A' he hE => ?_) fun A' _ _ _ hcr hU hG' => ?_
  · simp (disch := as_aux_lemma => first | omega | simp only [hDs] <;> omega | simp [isCell]) [hRs, takeMarks, resA, resAll, resOne, Value.cells, he]
    exact hQ _ _ ⟨e, tot, s, false, by simp, by simp, by simp [t12], by simp [t13], by simp, h.ext (eAC.trans hE), hk, fun h' => absurd h'.2 he, fun _ => hm.ext (eAC.trans hE), (eAC.trans hE).1⟩
  · have hm' := (hm.ext eAC).upd (h.gate.ext eAC) hU
    have nU := hU.1
    have hne := hm'.ne
    have hg1 := hm'.g1
    have hg2 := hm'.g2
    have hd1 := hm'.d1
    have hd2 := hm'.d2
    have hset1 : mapSetA g A' 1 (.map (some M1)) (.string w) (.bool is) = some (A'.set M1 (some (.map ((sS w (c, is) s.es).map fun e => (Value.string e.1, Value.bool e.2.2)) none))) := by
      have hs := setM_sS (w := w) (enc := fun b : Bool => Value.bool b) (a := is) (s.es.map fun e => (e.1, e.2.2))
      have hmm := sS_map (fun x : ByteArray × Bool => x.2) (w := w) (a := (c, is)) s.es
      simp only at hmm
      rw [← hmm] at hs
      simp only [List.map_map] at hs
      simp only [mapSetA, hm'.m1]
      rw [if_pos ⟨by omega, rfl⟩]
      rw [show (s.es.map fun e => (Value.string e.1, Value.bool e.2.2)) = s.es.map ((fun e => (Value.string e.1, Value.bool e.2)) ∘ fun e => (e.1, e.2.2)) from rfl, hs]
      rfl
    obtain ⟨A2, hA2⟩ : ∃ A2, A2 = A'.set M1 (some (.map ((sS w (c, is) s.es).map fun e => (Value.string e.1, Value.bool e.2.2)) none)) := ⟨_, rfl⟩
    rw [← hA2] at hset1
    have hA2n : A2.n = A'.n := by rw [hA2]; rfl
    have hM1n := Hp.lt_of_get hm'.m1
    have hM2n := Hp.lt_of_get hm'.m2
    have o2 : ∀ z, z ≠ M1 → A2.get z = A'.get z := fun z hz => by rw [hA2]; exact get_set_ne hM1n hz
    have g12 : A2.get M1 = some (.map ((sS w (c, is) s.es).map fun e => (Value.string e.1, Value.bool e.2.2)) none) := by rw [hA2]; exact get_set_same hm'.m1
    have g22 : A2.get M2 = _ := (o2 M2 (by omega)).trans hm'.m2
    have hset2 : mapSetA g A2 1 (.map (some M2)) (.string w) (.string c) = some (A2.set M2 (some (.map ((sS w (c, is) s.es).map fun e => (Value.string e.1, Value.string e.2.1)) none))) := by
      have hs := setM_sS (w := w) (enc := fun b : ByteArray => Value.string b) (a := c) (s.es.map fun e => (e.1, e.2.1))
      have hmm := sS_map (fun x : ByteArray × Bool => x.1) (w := w) (a := (c, is)) s.es
      simp only at hmm
      rw [← hmm] at hs
      simp only [List.map_map] at hs
      simp only [mapSetA, g22]
      rw [if_pos ⟨by omega, rfl⟩]
      rw [show (s.es.map fun e => (Value.string e.1, Value.string e.2.1)) = s.es.map ((fun e => (Value.string e.1, Value.string e.2)) ∘ fun e => (e.1, e.2.1)) from rfl, hs]
      rfl
    simp (disch := as_aux_lemma => first | omega | simp only [hDs] <;> omega | simp [isCell]) [hRs, takeMarks, resA, resAll, resOne, Value.cells, t14, t15, t21, hset1, storeV, hset2]
    have o3 : ∀ (b' : Option ABlk) z, z ≠ M1 → z ≠ M2 → (A2.set M2 b').get z = A'.get z := fun b' z h1 h2 => by rw [get_set_ne (by omega) h2, o2 z h1]
    have hGl := hG'.lt
    have hL := (h.ext eAC).next (tot' := tot) (t' := t) hG' hU rfl h.l0 h.lu h.tt (Int.le_refl _)
    refine hQ _ _ ⟨0, tot, { s with es := sS w (c, is) s.es, time := t }, false, by simp, by simp, by simp [t12], by simp [t13], by simp, ⟨⟨hG'.st.keep fun z hz => o3 _ z (by omega) (by omega), (o3 _ _ (by omega) (by omega)).trans hG'.hg, (o3 _ _ (by omega) (by omega)).trans hG'.hd, hG'.dl, (o3 _ _ (by omega) (by omega)).trans hG'.hm, hG'.ord⟩, fun z hz => by rw [o3 _ z (by omega) (by omega), hL.fr z hz], h.rl, (o3 _ _ (by omega) (by omega)).trans hL.dd, h.dg, h.cl, h.l0, h.lu, h.tt, Int.le_refl _⟩, ?_, fun h' => absurd h'.1 (by decide), fun _ => ⟨?_, get_set_same g22, hg1, hg2, hne, hd1, hd2⟩, by simp; omega⟩
    · rw [hw]; exact hk.set hi5
    · rw [get_set_ne (by omega) hne]; exact g12
end
end Go.Ab.Dike
