/- Carried over from the other seat by port.py. -/
import Derived.Test.YtmppgcknmmmioaaGreatDoorZ13
import Derived.DataShut
set_option linter.unusedSimpArgs false
set_option linter.unusedVariables false
set_option linter.unusedSectionVars false
namespace Go.Ab
open Go
def kints (k : IntKind) (l : List Int) : List Value := l.map (.int k)
@[simp] theorem kints_length (k : IntKind) (l : List Int) : (kints k l).length = l.length := List.length_map ..
theorem kints_get {k : IntKind} {l : List Int} {o : Nat} (h : o < l.length) : cellAt (kints k l) o = some (.int k (gi l o)) := by simp [kints, cellAt, gi, h]
def allK (k : IntKind) : Ty → Bool
  | .int k' => decide (k' = k)
  | .unit => true
  | .pair a b => allK k a && allK k b
  | _ => false
theorem kints_append {k : IntKind} (a b : List Int) : kints k (a ++ b) = kints k a ++ kints k b := List.map_append ..
theorem sh_k {rows : List (List Value)} {k : IntKind} : ∀ {t : Ty} {cs : List Value}, allK k t = true → Sh rows t cs → ∃ zs : List Int, cs = kints k zs ∧ ∀ z ∈ zs, k.min ≤ z ∧ z ≤ k.max
  | .int k', cs, h, ⟨n, hn, hw⟩ => by
    have e : k' = k := by simpa [allK] using h
    subst e
    exact ⟨[n], hn, fun z hz => by rw [List.mem_singleton] at hz; subst hz; exact (Lit.wf_int_iff k' z).1 hw⟩
  | .unit, cs, _, h => ⟨[], h, fun z hz => by cases hz⟩
  | .pair a b, cs, h, ⟨l, r, h1, h2, h3⟩ => by
    simp only [allK, Bool.and_eq_true] at h
    obtain ⟨za, ea, ba⟩ := sh_k h.1 h2
    obtain ⟨zb, eb, bb⟩ := sh_k h.2 h3
    refine ⟨za ++ zb, by rw [h1, ea, eb, kints_append], fun z hz => ?_⟩
    rcases List.mem_append.1 hz with h' | h'
    · exact ba z h'
    · exact bb z h'
  | .bool, _, h, _ => by simp [allK] at h
  | .str, _, h, _ => by simp [allK] at h
  | .slice _, _, h, _ => by simp [allK] at h
theorem kints_flatMap {k : IntKind} {f : Nat → List Int} {n : Nat} : (List.range n).flatMap (fun i => kints k (f i)) = kints k ((List.range n).flatMap f) := by
  simp only [kints, List.map_flatMap]
theorem sh_slice_k {rows : List (List Value)} {k : IntKind} {e : Ty} {cs : List Value} (he : allK k e = true) (h : Sh rows (.slice e) cs) :
    ∃ (n : Nat) (zs : List Int) (sl : Value), cs = [sl] ∧ RdS (roHp rows) e.size n (kints k zs) sl ∧ n ≤ maxLen ∧ ∀ z ∈ zs, k.min ≤ z ∧ z ≤ k.max := by
  rcases h with rfl | ⟨x, n, q, row, rfl, hn, hrow, hlen, hs, f, rfl, hf⟩
  · exact ⟨0, [], _, rfl, ⟨by simp [kints], .inl ⟨rfl, rfl⟩⟩, Nat.zero_le _, fun z hz => by cases hz⟩
  · obtain ⟨p, hp⟩ := Go.Deep.choose_lt (α := List Int) (p := fun i p => f i = kints k p ∧ ∀ z ∈ p, k.min ≤ z ∧ z ≤ k.max) fun i hi => sh_k he (hf i hi).1
    have e1 : (List.range n).flatMap f = kints k ((List.range n).flatMap p) := by
      rw [← kints_flatMap]
      exact Go.Deep.flatMap_congr_range fun i hi => (hp i hi).1
    refine ⟨n, (List.range n).flatMap p, _, rfl, ⟨by rw [← e1, hlen], .inr ⟨x, q, true, rfl, by rw [roHp_get, hrow, ← e1]; rfl⟩⟩, hn, fun z hz => ?_⟩
    obtain ⟨i, hi, hz⟩ := List.mem_flatMap.1 hz
    exact (hp i (by simpa using hi)).2 z hz
theorem gi_rng {l : List Int} {a b : Int} (h : ∀ z ∈ l, a ≤ z ∧ z ≤ b) (ha : a ≤ 0) (hb : 0 ≤ b) (i : Nat) : a ≤ gi l i ∧ gi l i ≤ b := by
  unfold gi
  rw [List.getD_eq_getElem?_getD]
  rcases Nat.lt_or_ge i l.length with hi | hi
  · rw [List.getElem?_eq_getElem hi]
    exact h _ (List.getElem_mem hi)
  · rw [List.getElem?_eq_none hi]
    exact ⟨ha, hb⟩
theorem sh_int {rows : List (List Value)} {k : IntKind} {cs : List Value} (h : Sh rows (.int k) cs) : ∃ n, cs = [.int k n] ∧ k.min ≤ n ∧ n ≤ k.max := by
  obtain ⟨n, h1, h2⟩ := h
  exact ⟨n, h1, (Lit.wf_int_iff k n).1 h2⟩
end Go.Ab
set_option maxRecDepth 100000
namespace Go.Ab.Grid
open Go Go.Ab
def bools (l : List Bool) : List Value := l.map .bool
@[simp] theorem bools_length (l : List Bool) : (bools l).length = l.length := by simp [bools]
set_option maxRecDepth 100000
abbrev J (n : Int) : Value := .int .i64 n
def validB (a b lo hi : Int) : Bool := decide (a ≤ b) && (decide (lo ≤ a) && decide (b ≤ hi))
theorem set_push_eq {A : Hp} {b b' : ABlk} {x : Nat} (h : x ≤ A.n ∧ A.n ≤ x) : (A.push b).set x (some b') = A.push b' := by
  rw [show x = A.n by omega]; exact set_push_new
section
variable {g : Nat} {rd : Option Nat} {D : List Nat} {Q : Ex → St → Prop}
def Says (g : Nat) (A0 : Hp) (f : Value) (n : Nat) (val : Nat → Value) (p : Nat → Bool) : Prop :=
  ∀ i, i < n → ∀ (A : Hp) (V : Value → Hp → Prop), Ext' A0 A → (∀ A', Ext' A A' → V (.bool (p i)) A') → WV AP KL g f [val i] A V
theorem Says.mono {g : Nat} {A0 A1 : Hp} {f : Value} {n : Nat} {val : Nat → Value} {p : Nat → Bool} (h : Says g A0 f n val p) (he : Ext' A0 A1) : Says g A1 f n val p := fun i hi A V hA hV => h i hi A V (he.trans hA) hV
theorem _root_.Go.Ab.Ext'.rdS {A A' : Hp} {k n : Nat} {cs : List Value} {sv : Value} (h : Ext' A A') (hr : RdS A k n cs sv) : RdS A' k n cs sv := hr.mono h.2
def RdP (A : Hp) (k n : Nat) (cs : List Value) (sv : Value) : Prop := n * k ≤ cs.length ∧ ((sv = .slice none 0 0 ∧ n = 0) ∨ ∃ b c ro, sv = .slice (some ⟨b, 0, some k⟩) n c ∧ A.get b = some (.cells cs ro))
theorem RdP.mono {A A' : Hp} {k n : Nat} {cs : List Value} {sv : Value} (h : RdP A k n cs sv) (hA : ∀ x, x < A.n → A'.get x = A.get x) : RdP A' k n cs sv := by
  obtain ⟨h0, h | ⟨b, c, ro, h1, h2⟩⟩ := h
  · exact ⟨h0, .inl h⟩
  · exact ⟨h0, .inr ⟨b, c, ro, h1, by rw [hA b (Hp.lt_of_get h2)]; exact h2⟩⟩
theorem RdP.len {A : Hp} {k n : Nat} {cs : List Value} {sv : Value} (h : RdP A k n cs sv) : lenV sv = some (.int .i64 n) := by
  obtain ⟨_, ⟨rfl, rfl⟩ | ⟨b, c, ro, rfl, _⟩⟩ := h <;> rfl
theorem RdP.at {A : Hp} {k n i : Nat} {cs : List Value} {sv : Value} (h : RdP A k n cs sv) (hi : i < n) : ∃ b c ro, sv = .slice (some ⟨b, 0, some k⟩) n c ∧ A.get b = some (.cells cs ro) := by
  obtain ⟨_, ⟨_, h0⟩ | h⟩ := h
  · omega
  · exact h
theorem resl_some {b k n c i : Nat} (h : i ≤ n) : resliceA k (.slice (some ⟨b, 0, some k⟩) n c) (some 0) (fun _ => some (i : Int)) = some (.slice (some ⟨b, 0, some k⟩) i (Nat.max n c)) := by
  simp only [resliceA]
  rw [if_pos ⟨trivial, Int.le_refl 0, by omega, by simp only [Nat.max_def]; split <;> omega⟩]
  simp
theorem loop82 {A0 : Hp} {n : Nat} {sl f : Value} {row : List Value} {val : Nat → Value} {p : Nat → Bool} (hsl : RdS A0 2 n row sl) (hval : ∀ i, i < n → partA row (i * 2) (some 2) = some (val i)) (hf : Says g A0 f n val p) (hn : n < 1000000)
    (hin : ∀ i T' A', i < n → p i = true → Ext' A0 A' → tget T' 4 = .int .i64 (i : Nat) → Q .ret ⟨T', D, A'⟩) (hout : ∀ T' A', (∀ i, i < n → p i = false) → Ext' A0 A' → Q (.exit 0) ⟨T', D, A'⟩) :
    ∀ (k i : Nat) {T : List Value} {A : Hp}, i + k = n → (∀ j, j < i → p j = false) → Ext' A0 A → tget T 0 = sl → tget T 1 = f → tget T 7 = .int .i64 n → tget T 8 = .int .i64 i → W AP KL g rd (.loop body82) ⟨T, D, A⟩ Q := by
  intro k
  induction k with
  | zero =>
    intro i T A hik hno he h0 h1 h7 h8
    have : i = n := by omega
    subst this
    rw [W_loop]
    simp (disch := as_aux_lemma => first | omega | simp only [hDs] <;> omega | simp [isCell]) [hRs, takeMarks, resA, resAll, resOne, Value.cells, body82, h7, h8]
    exact hout _ A hno he
  | succ k ih =>
    intro i T A hik hno he h0 h1 h7 h8
    obtain ⟨x, c, ro, rfl, hx⟩ := (he.rdS hsl).at (i := i) (by omega)
    have hv := hval i (by omega)
    skip
    rw [W_loop]
    simp (disch := as_aux_lemma => first | omega | simp only [hDs] <;> omega | simp [isCell]) [hRs, takeMarks, resA, resAll, resOne, Value.cells, body82, h7, h8, h0, h1, show ((i : Int) < n) by omega, idxSA_ok, hx, hv]
    refine hf i (by omega) A _ he fun A1 he1 => ?_
    cases hp : p i with
    | true =>
      simp (disch := as_aux_lemma => first | omega | simp only [hDs] <;> omega | simp [isCell]) [hRs, takeMarks, resA, resAll, resOne, Value.cells]
      exact hin i _ A1 (by omega) hp (he.trans he1) (by simp)
    | false =>
      simp (disch := as_aux_lemma => first | omega | simp only [hDs] <;> omega | simp [isCell]) [hRs, takeMarks, resA, resAll, resOne, Value.cells, h8]
      have hno' : ∀ j, j < i + 1 → p j = false := fun j hj => by
        rcases Nat.lt_or_ge j i with h | h
        · exact hno j h
        · have : j = i := by omega
          subst this; exact hp
      exact ih (i + 1) (by omega) hno' (he.trans he1) (by simp [h0]) (by simp [h1]) (by simp [h7]) (by simp [wrId (n := (i : Int) + 1) (by omega) (by omega)])
theorem w82 {A : Hp} {V : Value → Hp → Prop} {n : Nat} {sl f : Value} {row : List Value} {val : Nat → Value} {p : Nat → Bool} (hsl : RdS A 2 n row sl) (hval : ∀ i, i < n → partA row (i * 2) (some 2) = some (val i)) (hf : Says g A f n val p) (hn : n < 1000000)
    (hV : ∀ A' (k : Int), Ext' A A' → (0 ≤ k ↔ (List.range n).any p = true) → V (.int .i64 k) A') : WF AP KL g 82 [sl, f] A V := by
  rw [WF_body (show KL 82 = none from rfl) (show AP 82 = some F82 from rfl)]
  simp (disch := as_aux_lemma => first | omega | simp only [hDs] <;> omega | simp [isCell]) [hRs, takeMarks, resA, resAll, resOne, Value.cells, F82, hsl.len]
  refine loop82 hsl hval hf hn ?_ ?_ n 0 (by omega) (fun j h => absurd h (Nat.not_lt_zero _)) (Ext'.refl _) (by simp) (by simp) (by simp) (by simp)
  · intro i T' A' hi hp he h4
    simp (disch := as_aux_lemma => first | omega | simp only [hDs] <;> omega | simp [isCell]) [hRs, takeMarks, resA, resAll, resOne, Value.cells, h4]
    exact hV A' _ he ⟨fun _ => List.any_eq_true.2 ⟨i, by simpa using hi, hp⟩, fun _ => by omega⟩
  · intro T' A' hno he
    simp (disch := as_aux_lemma => first | omega | simp only [hDs] <;> omega | simp [isCell]) [hRs, takeMarks, resA, resAll, resOne, Value.cells]
    refine hV A' _ he ⟨fun h => by omega, fun h => ?_⟩
    obtain ⟨i, hi, hp⟩ := List.any_eq_true.1 h
    rw [hno i (by simpa using hi)] at hp
    cases hp
theorem w56 {A : Hp} {V : Value → Hp → Prop} {n : Nat} {sl f : Value} {row : List Value} {val : Nat → Value} {p : Nat → Bool} (hsl : RdS A 2 n row sl) (hval : ∀ i, i < n → partA row (i * 2) (some 2) = some (val i)) (hf : Says g A f n val p) (hn : n < 1000000)
    (hV : ∀ A', Ext' A A' → V (.bool ((List.range n).any p)) A') : WF AP KL g 56 [sl, f] A V := by
  rw [WF_body (show KL 56 = none from rfl) (show AP 56 = some F56 from rfl)]
  simp (disch := as_aux_lemma => first | omega | simp only [hDs] <;> omega | simp [isCell]) [hRs, takeMarks, resA, resAll, resOne, Value.cells, F56]
  refine w82 hsl hval hf hn fun A' k he hk => ?_
  simp (disch := as_aux_lemma => first | omega | simp only [hDs] <;> omega | simp [isCell]) [hRs, takeMarks, resA, resAll, resOne, Value.cells]
  have : decide (0 ≤ k) = (List.range n).any p := by
    rw [Bool.eq_iff_iff, decide_eq_true_eq]; exact hk
  rw [this]
  exact hV A' he
end
def grd (zs : List Int) (i : Nat) : Bool := validB (gi zs (i * 2)) (gi zs (i * 2 + 1)) (-1200000) 1200000
def gridV (w h s : Int) (sl : Value) : Value := .agg ⟨[.int .i64 w, .int .i64 h, .int .i64 s, sl]⟩
def gridE (w h s : Int) (m : Nat) (zs : List Int) : Int :=
  if (decide (1 ≤ w) && decide (w ≤ 24)) = false ∨ (decide (1 ≤ h) && decide (h ≤ 24)) = false ∨ (decide (1 ≤ s) && decide (s ≤ 10000)) = false then 3 else if ¬ (m : Int) = wr .i64 (w * h) then 11 else if (List.range m).any (fun i => !grd zs i) = true then 3 else 0
theorem gridE_a {w h s : Int} {m : Nat} {zs : List Int} (h1 : (decide (1 ≤ w) && decide (w ≤ 24)) = false ∨ (decide (1 ≤ h) && decide (h ≤ 24)) = false ∨ (decide (1 ≤ s) && decide (s ≤ 10000)) = false) : gridE w h s m zs = 3 := if_pos h1
theorem gridE_b {w h s : Int} {m : Nat} {zs : List Int} (h1 : ¬ ((decide (1 ≤ w) && decide (w ≤ 24)) = false ∨ (decide (1 ≤ h) && decide (h ≤ 24)) = false ∨ (decide (1 ≤ s) && decide (s ≤ 10000)) = false)) (h2 : ¬ (m : Int) = wr .i64 (w * h)) : gridE w h s m zs = 11 := by rw [gridE, if_neg h1, if_pos h2]
theorem gridE_c {w h s : Int} {m : Nat} {zs : List Int} (h1 : ¬ ((decide (1 ≤ w) && decide (w ≤ 24)) = false ∨ (decide (1 ≤ h) && decide (h ≤ 24)) = false ∨ (decide (1 ≤ s) && decide (s ≤ 10000)) = false)) (h2 : (m : Int) = wr .i64 (w * h)) (h3 : (List.range m).any (fun i => !grd zs i) = true) : gridE w h s m zs = 3 := by rw [gridE, if_neg h1, if_neg (fun h => h h2), if_pos h3]
theorem gridE_d {w h s : Int} {m : Nat} {zs : List Int} (h1 : ¬ ((decide (1 ≤ w) && decide (w ≤ 24)) = false ∨ (decide (1 ≤ h) && decide (h ≤ 24)) = false ∨ (decide (1 ≤ s) && decide (s ≤ 10000)) = false)) (h2 : (m : Int) = wr .i64 (w * h)) (h3 : (List.range m).any (fun i => !grd zs i) = false) : gridE w h s m zs = 0 := by rw [gridE, if_neg h1, if_neg (fun h => h h2), h3]; rfl
section
variable {g : Nat} {rd : Option Nat} {T : List Value} {D : List Nat} {A : Hp} {Q : Ex → St → Prop} {V : Value → Hp → Prop}
theorem w55 {x lo hi : Int} (hV : V (.bool (decide (lo ≤ x) && decide (x ≤ hi))) A) : WF AP KL g 55 [.int .i64 x, .int .i64 lo, .int .i64 hi] A V := by
  rw [WF_body (show KL 55 = none from rfl) (show AP 55 = some F55 from rfl)]
  by_cases h : lo ≤ x
  · simp (disch := as_aux_lemma => first | omega | simp only [hDs] <;> omega | simp [isCell]) [hRs, takeMarks, resA, resAll, resOne, Value.cells, F55, h]
    simpa [h] using hV
  · simp (disch := as_aux_lemma => first | omega | simp only [hDs] <;> omega | simp [isCell]) [hRs, takeMarks, resA, resAll, resOne, Value.cells, F55, h]
    simpa [h] using hV
theorem w58 {a b : Int} (hV : ∀ A', Ext' A A' → V (.bool (validB a b (-1200000) 1200000)) A') : WF AP KL g 58 [.agg ⟨[.int .i64 a, .int .i64 b]⟩, .int .i64 1200000] A V := by
  rw [WF_body (show KL 58 = none from rfl) (show AP 58 = some F58 from rfl)]
  have e1 : wr .i64 (-1200000) = -1200000 := by decide
  have hV' := hV _ (Ext'.push A (.cells [.int .i64 a, .int .i64 b] false))
  by_cases h : a ≤ b
  · by_cases h2 : -1200000 ≤ a
    · simp (disch := as_aux_lemma => first | omega | simp only [hDs] <;> omega | simp [isCell]) [hRs, takeMarks, resA, resAll, resOne, Value.cells, F58, h, h2, e1]
      simpa [validB, h, h2] using hV'
    · simp (disch := as_aux_lemma => first | omega | simp only [hDs] <;> omega | simp [isCell]) [hRs, takeMarks, resA, resAll, resOne, Value.cells, F58, h, h2, e1]
      simpa [validB, h, h2] using hV'
  · simp (disch := as_aux_lemma => first | omega | simp only [hDs] <;> omega | simp [isCell]) [hRs, takeMarks, resA, resAll, resOne, Value.cells, F58, h]
    simpa [validB, h] using hV'
theorem says57 {A0 : Hp} {n : Nat} {zs : List Int} : Says g A0 (.func (.func 57) ⟨[]⟩ ⟨[]⟩) n (fun i => .agg ⟨[.int .i64 (gi zs (i * 2)), .int .i64 (gi zs (i * 2 + 1))]⟩) (fun i => !grd zs i) := by
  intro i hi A V he hV
  simp (disch := as_aux_lemma => first | omega | simp only [hDs] <;> omega | simp [isCell]) [hRs, takeMarks, resA, resAll, resOne, Value.cells]
  rw [WF_body (show KL 57 = none from rfl) (show AP 57 = some F57 from rfl)]
  simp (disch := as_aux_lemma => first | omega | simp only [hDs] <;> omega | simp [isCell]) [hRs, takeMarks, resA, resAll, resOne, Value.cells, F57]
  refine w58 fun A' he' => ?_
  simp (disch := as_aux_lemma => first | omega | simp only [hDs] <;> omega | simp [isCell]) [hRs, takeMarks, resA, resAll, resOne, Value.cells]
  exact hV A' ((Ext'.push A _).trans he')
theorem w37 {w h s : Int} {m : Nat} {zs : List Int} {sl : Value} (hsl : RdS A 2 m (ints zs) sl) (hm : m < 1000000) (hV : ∀ A', Ext' A A' → V (.int .i64 (gridE w h s m zs)) A') : WF AP KL g 37 [gridV w h s sl] A V := by
  rw [WF_body (show KL 37 = none from rfl) (show AP 37 = some F37 from rfl)]
  have hX : (A.push (.cells [.int .i64 w, .int .i64 h, .int .i64 s, sl] false)).get A.n = some (.cells [.int .i64 w, .int .i64 h, .int .i64 s, sl] false) := get_push_new
  have eX := Ext'.push A (.cells [.int .i64 w, .int .i64 h, .int .i64 s, sl] false)
  have hl := hsl.1
  rw [ints_length] at hl
  simp (disch := as_aux_lemma => first | omega | simp only [hDs] <;> omega | simp [isCell]) [hRs, takeMarks, resA, resAll, resOne, Value.cells, F37, gridV]
  refine w55 ?_
  cases c1 : (decide (1 ≤ w) && decide (w ≤ 24)) with
  | false =>
    simp (disch := as_aux_lemma => first | omega | simp only [hDs] <;> omega | simp [isCell]) [hRs, takeMarks, resA, resAll, resOne, Value.cells]
    rw [← gridE_a (.inl c1)]; exact hV _ eX
  | true =>
    simp (disch := as_aux_lemma => first | omega | simp only [hDs] <;> omega | simp [isCell]) [hRs, takeMarks, resA, resAll, resOne, Value.cells]
    refine w55 ?_
    cases c2 : (decide (1 ≤ h) && decide (h ≤ 24)) with
    | false =>
      simp (disch := as_aux_lemma => first | omega | simp only [hDs] <;> omega | simp [isCell]) [hRs, takeMarks, resA, resAll, resOne, Value.cells]
      rw [← gridE_a (.inr (.inl c2))]; exact hV _ eX
    | true =>
      simp (disch := as_aux_lemma => first | omega | simp only [hDs] <;> omega | simp [isCell]) [hRs, takeMarks, resA, resAll, resOne, Value.cells]
      refine w55 ?_
      cases c3 : (decide (1 ≤ s) && decide (s ≤ 10000)) with
      | false =>
        simp (disch := as_aux_lemma => first | omega | simp only [hDs] <;> omega | simp [isCell]) [hRs, takeMarks, resA, resAll, resOne, Value.cells]
        rw [← gridE_a (.inr (.inr c3))]; exact hV _ eX
      | true =>
        have hc : ¬ ((decide (1 ≤ w) && decide (w ≤ 24)) = false ∨ (decide (1 ≤ h) && decide (h ≤ 24)) = false ∨ (decide (1 ≤ s) && decide (s ≤ 10000)) = false) := by simp only [c1, c2, c3]; simp
        by_cases hwh : (m : Int) = wr .i64 (w * h)
        · simp (disch := as_aux_lemma => first | omega | simp only [hDs] <;> omega | simp [isCell]) [hRs, takeMarks, resA, resAll, resOne, Value.cells, hsl.len, ← hwh]
          refine w56 (eX.rdS hsl) (fun i hi => ints_two (by omega)) says57 hm fun A' he => ?_
          cases c4 : (List.range m).any (fun i => !grd zs i) with
          | true =>
            simp (disch := as_aux_lemma => first | omega | simp only [hDs] <;> omega | simp [isCell]) [hRs, takeMarks, resA, resAll, resOne, Value.cells]
            rw [← gridE_c hc hwh c4]; exact hV _ (eX.trans he)
          | false =>
            simp (disch := as_aux_lemma => first | omega | simp only [hDs] <;> omega | simp [isCell]) [hRs, takeMarks, resA, resAll, resOne, Value.cells]
            rw [← gridE_d hc hwh c4]; exact hV _ (eX.trans he)
        · simp (disch := as_aux_lemma => first | omega | simp only [hDs] <;> omega | simp [isCell]) [hRs, takeMarks, resA, resAll, resOne, Value.cells, hsl.len, hwh]
          rw [← gridE_b hc hwh]; exact hV _ eX
end
def blkOf : Value → Option Nat
  | .slice (some ⟨x, _, _⟩) _ _ => some x
  | _ => none
theorem _root_.Go.Ab.AccS.keepB {N : Nat} {A A' : Hp} {esz : Nat} {cs : List Value} {sv : Value} (h : AccS N A esz cs sv) (hA : ∀ b, blkOf sv = some b → A'.get b = A.get b) : AccS N A' esz cs sv := by
  rcases h with h | ⟨b, n, h1, h2, h3, h4, h5⟩
  · exact .inl h
  · exact .inr ⟨b, n, h1, by rw [hA b (by rw [h1]; rfl)]; exact h2, h3, h4, h5⟩
theorem _root_.Go.Ab.AccS.blk_ge {N : Nat} {A : Hp} {esz : Nat} {cs : List Value} {sv : Value} (h : AccS N A esz cs sv) {b : Nat} (hb : blkOf sv = some b) : N ≤ b ∧ b < A.n := by
  rcases h with ⟨rfl, _⟩ | ⟨b', n, rfl, h2, h3, h4, h5⟩
  · cases hb
  · cases hb; exact ⟨h3, Hp.lt_of_get h2⟩
structure HS where
  wc : Int
  ws : Int
  sc : Int
  ss : Int
  may : Int
  must : Int
structure Sec where
  cell : Int
  cl : Int
  ch : Int
  sl : Int
  sh : Int
  toe : Int
  wl : Int
  wh : Int
def Sec.cells (S : Sec) : List Value := [.int .i64 S.cell, .int .i64 S.cl, .int .i64 S.ch, .int .i64 S.sl, .int .i64 S.sh, .int .i64 S.toe, .int .i64 S.wl, .int .i64 S.wh]
def Sec.ok (S : Sec) : Bool := validB S.cl S.ch (-20000) 20000 && (validB S.sl S.sh (-20000) 20000 && (validB S.toe S.toe (-20000) 20000 && validB S.wl S.wh 0 1000))
def holdS (S : Sec) (zs : List Int) : Nat → HS
  | 0 => ⟨S.cl, S.sl, S.ch, S.sh, -1, -1⟩
  | k + 1 =>
    ⟨if S.toe < gi zs (k * 2 + 1) then wr .i64 ((holdS S zs k).wc - S.wh) else (holdS S zs k).wc, if S.toe < gi zs (k * 2 + 1) then wr .i64 ((holdS S zs k).ws - S.wh) else (holdS S zs k).ws,
     if S.toe < gi zs (k * 2) then wr .i64 ((holdS S zs k).sc - S.wl) else (holdS S zs k).sc, if S.toe < gi zs (k * 2) then wr .i64 ((holdS S zs k).ss - S.wl) else (holdS S zs k).ss,
     if (holdS S zs k).may < 0 ∧ min (holdS S zs k).wc (holdS S zs k).ws < gi zs (k * 2 + 1) then k else (holdS S zs k).may,
     if (holdS S zs k).must < 0 ∧ min (holdS S zs k).sc (holdS S zs k).ss < gi zs (k * 2) then k else (holdS S zs k).must⟩
def fateV (a b : Value) (m u : Int) : Value := .agg ⟨[a, b, .int .i64 m, .int .i64 u]⟩
def KeepT (l : List Nat) (T T' : List Value) : Prop := ∀ i ∈ l, tget T' i = tget T i
@[simp] theorem KeepT_nil {T T' : List Value} : KeepT [] T T' := fun _ h => by cases h
@[simp] theorem KeepT_cons {a : Nat} {l : List Nat} {T T' : List Value} : KeepT (a :: l) T T' ↔ tget T' a = tget T a ∧ KeepT l T T' := by simp [KeepT]
theorem KeepT.at {l : List Nat} {T T' : List Value} (h : KeepT l T T') (i : Nat) (hi : l.contains i = true) : tget T' i = tget T i := h i (by simpa using hi)
theorem KeepT.trans {l : List Nat} {T T' T'' : List Value} (h : KeepT l T T') (h' : KeepT l T' T'') : KeepT l T T'' := fun i hi => (h' i hi).trans (h i hi)
section
variable {g : Nat} {rd : Option Nat} {T : List Value} {D : List Nat} {A : Hp} {Q : Ex → St → Prop} {V : Value → Hp → Prop}
def But (x : Nat) (A A' : Hp) : Prop := A.n ≤ A'.n ∧ ∀ z, z < A.n → z ≠ x → A'.get z = A.get z
theorem But.of_ext {x : Nat} {A A' : Hp} (h : Ext' A A') : But x A A' := ⟨h.1, fun z hz _ => h.2 z hz⟩
theorem But.set {x : Nat} {A A' : Hp} {b : Option ABlk} (hx : x < A.n) (h : Ext' A A') : But x A (A'.set x b) := ⟨by have := h.1; simpa using this, fun z hz hzx => by rw [get_set_ne (by have := h.1; omega) hzx, h.2 z hz]⟩
end
theorem part4 {cs : List Value} {o : Nat} {a b c d : Value} (h0 : cellAt cs o = some a) (h1 : cellAt cs (o + 1) = some b) (h2 : cellAt cs (o + 2) = some c) (h3 : cellAt cs (o + 3) = some d) : partA cs o (some 4) = some (.agg ⟨[a, b, c, d]⟩) := by
  have l3 := (List.getElem?_eq_some_iff.1 (show cs[o + 3]? = some d from h3)).1
  rw [partA_some (by omega)]
  congr 3
  apply List.ext_getElem?
  intro i
  rw [List.getElem?_take]
  by_cases hi : i < 4
  · rw [if_pos hi, List.getElem?_drop]
    have : i = 0 ∨ i = 1 ∨ i = 2 ∨ i = 3 := by omega
    rcases this with rfl | rfl | rfl | rfl
    · exact h0
    · exact h1
    · exact h2
    · exact h3
  · rw [if_neg hi]
    exact (List.getElem?_eq_none (by simp; omega)).symm
structure FT where
  cn : Nat
  cz : List Int
  sn : Nat
  sz : List Int
  may : Int
  must : Int
def FateAt (A : Hp) (cells : List Value) (i : Nat) (f : FT) : Prop :=
  ∃ a b, partA cells (i * 4) (some 4) = some (fateV a b f.may f.must) ∧ cellAt cells (i * 4) = some a ∧ cellAt cells (i * 4 + 1) = some b ∧ cellAt cells (i * 4 + 2) = some (.int .i64 f.may) ∧ cellAt cells (i * 4 + 3) = some (.int .i64 f.must) ∧ RdS A 2 f.cn (ints f.cz) a ∧ RdS A 2 f.sn (ints f.sz) b
def Fates (A : Hp) (n : Nat) (F : Nat → FT) (sl : Value) : Prop := ∃ cells, RdS A 4 n cells sl ∧ ∀ i, i < n → FateAt A cells i (F i)
theorem FateAt.mono {A A' : Hp} {cells : List Value} {i : Nat} {f : FT} (h : FateAt A cells i f) (hA : ∀ z, z < A.n → A'.get z = A.get z) : FateAt A' cells i f := by
  obtain ⟨a, b, h1, h2, h3, h4, h5, h6, h7⟩ := h
  exact ⟨a, b, h1, h2, h3, h4, h5, h6.mono hA, h7.mono hA⟩
theorem Fates.mono {A A' : Hp} {n : Nat} {F : Nat → FT} {sl : Value} (h : Fates A n F sl) (hA : ∀ z, z < A.n → A'.get z = A.get z) : Fates A' n F sl := by
  obtain ⟨cells, h1, h2⟩ := h
  exact ⟨cells, h1.mono hA, fun i hi => (h2 i hi).mono hA⟩
theorem Fates.ext {A A' : Hp} {n : Nat} {F : Nat → FT} {sl : Value} (h : Fates A n F sl) (he : Ext' A A') : Fates A' n F sl := h.mono he.2
theorem Fates.len {A : Hp} {n : Nat} {F : Nat → FT} {sl : Value} (h : Fates A n F sl) : lenV sl = some (.int .i64 n) := by obtain ⟨_, h1, _⟩ := h; exact h1.len
theorem Fates.at {A : Hp} {n i : Nat} {F : Nat → FT} {sl : Value} (h : Fates A n F sl) (hi : i < n) : ∃ x c ro cells, sl = .slice (some ⟨x, 0, some 4⟩) n c ∧ A.get x = some (.cells cells ro) ∧ FateAt A cells i (F i) := by
  obtain ⟨cells, h1, h2⟩ := h
  obtain ⟨x, c, ro, h3, h4⟩ := h1.at hi
  exact ⟨x, c, ro, cells, h3, h4, h2 i hi⟩
theorem But.trans {x : Nat} {A B C : Hp} (h : But x A B) (h' : But x B C) : But x A C := ⟨Nat.le_trans h.1 h'.1, fun z hz hx => (h'.2 z (Nat.lt_of_lt_of_le hz h.1) hx).trans (h.2 z hz hx)⟩
theorem gi_setI {l : List Int} {i j : Nat} {v : Int} (hi : i < l.length) : gi (l.set i v) j = if j = i then v else gi l j := by
  unfold gi
  simp only [List.getD_eq_getElem?_getD, List.getElem?_set]
  by_cases h : i = j
  · subst h; simp [hi]
  · simp [h, Ne.symm h]
theorem setRange_intsI {vs : List Int} {d : Nat} {v : Int} (h : d < vs.length) : setRange (ints vs) d [.int .i64 v] = ints (vs.set d v) := by
  unfold setRange ints
  apply List.ext_getElem?
  intro i
  rw [List.map_set]
  have e : (vs.map (Value.int .i64)).take d ++ [Value.int .i64 v] ++ (vs.map (Value.int .i64)).drop (d + 1) = (vs.map (Value.int .i64)).set d (.int .i64 v) := by
    rw [List.set_eq_take_append_cons_drop, if_pos (by simpa using h)]; simp
  simpa using congrArg (fun l => l[i]?) e
structure StepT where
  name : ByteArray
  an : Nat
  al : List Int
  tl : Int
  th : Int
  calm : Bool
  clear : Bool
  logs : Int
def stepC (a : Value) (s : StepT) : List Value := [.string s.name, a, .int .i64 s.tl, .int .i64 s.th, .bool s.calm, .bool s.clear, .int .i64 s.logs]
def StepAt (A : Hp) (cells : List Value) (i : Nat) (s : StepT) : Prop :=
  ∃ a, partA cells (i * 7) (some 7) = some (.agg ⟨stepC a s⟩) ∧ cellAt cells (i * 7) = some (.string s.name) ∧ cellAt cells (i * 7 + 1) = some a ∧ partA cells (i * 7 + 2) (some 2) = some (.agg ⟨[.int .i64 s.tl, .int .i64 s.th]⟩) ∧
    cellAt cells (i * 7 + 2) = some (.int .i64 s.tl) ∧ cellAt cells (i * 7 + 3) = some (.int .i64 s.th) ∧ cellAt cells (i * 7 + 4) = some (.bool s.calm) ∧ cellAt cells (i * 7 + 5) = some (.bool s.clear) ∧ cellAt cells (i * 7 + 6) = some (.int .i64 s.logs) ∧ RdS A 1 s.an (ints s.al) a
def Steps (A : Hp) (n : Nat) (S : Nat → StepT) (sl : Value) : Prop := ∃ cells, RdS A 7 n cells sl ∧ ∀ i, i < n → StepAt A cells i (S i)
theorem StepAt.mono {A A' : Hp} {cells : List Value} {i : Nat} {f : StepT} (h : StepAt A cells i f) (hA : ∀ z, z < A.n → A'.get z = A.get z) : StepAt A' cells i f := by
  obtain ⟨a, h1, h2, h3, h4, h5, h6, h7, h8, h9, h10⟩ := h
  exact ⟨a, h1, h2, h3, h4, h5, h6, h7, h8, h9, h10.mono hA⟩
theorem Steps.mono {A A' : Hp} {n : Nat} {F : Nat → StepT} {sl : Value} (h : Steps A n F sl) (hA : ∀ z, z < A.n → A'.get z = A.get z) : Steps A' n F sl := by
  obtain ⟨cells, h1, h2⟩ := h
  exact ⟨cells, h1.mono hA, fun i hi => (h2 i hi).mono hA⟩
theorem Steps.ext {A A' : Hp} {n : Nat} {F : Nat → StepT} {sl : Value} (h : Steps A n F sl) (he : Ext' A A') : Steps A' n F sl := h.mono he.2
theorem Steps.len {A : Hp} {n : Nat} {F : Nat → StepT} {sl : Value} (h : Steps A n F sl) : lenV sl = some (.int .i64 n) := by obtain ⟨_, h1, _⟩ := h; exact h1.len
theorem Steps.at {A : Hp} {n i : Nat} {F : Nat → StepT} {sl : Value} (h : Steps A n F sl) (hi : i < n) : ∃ x c ro cells, sl = .slice (some ⟨x, 0, some 7⟩) n c ∧ A.get x = some (.cells cells ro) ∧ cells.length = n * 7 ∧ ∀ j, j < n → StepAt A cells j (F j) := by
  obtain ⟨cells, h1, h2⟩ := h
  obtain ⟨x, c, ro, h3, h4⟩ := h1.at hi
  exact ⟨x, c, ro, cells, h3, h4, h1.1, h2⟩
def never : Int := 1099511627776
def Bd (B v : Int) : Prop := 0 ≤ v ∧ (v ≤ B ∨ v = never)
theorem Bd.max {B v u : Int} (h : Bd B v) (h' : Bd B u) (hB : B ≤ never) : Bd B (max v u) := by
  unfold Bd never at *
  omega
theorem Bd.le {B v : Int} (h : Bd B v) (hB : B ≤ never) : v ≤ never := by unfold Bd at h; omega
theorem Bd.mono {B B' v : Int} (h : Bd B v) (hB : B ≤ B') : Bd B' v := by unfold Bd at *; omega
theorem _root_.Go.Ab.RdS.cellsAt {A : Hp} {k n : Nat} {cs : List Value} {sv : Value} (h : RdS A k n cs sv) : cellsAt A (n * k) sv = some cs := by
  obtain ⟨h0, ⟨rfl, rfl⟩ | ⟨b, c, ro, rfl, hb⟩⟩ := h
  · have : cs = [] := List.eq_nil_of_length_eq_zero (by simpa using h0)
    subst this; simp [Go.Ab.cellsAt]
  · simp only [Go.Ab.cellsAt, hb]
    rw [if_pos (by omega)]
    simp [← h0]
def FSep (A : Hp) (cells : List Value) (sv : Value) (j : Nat) (f : FT) : Prop :=
  ∃ a b, cellAt cells (j * 4) = some a ∧ cellAt cells (j * 4 + 1) = some b ∧ cellAt cells (j * 4 + 2) = some (.int .i64 f.may) ∧ cellAt cells (j * 4 + 3) = some (.int .i64 f.must) ∧ RdS A 2 f.cn (ints f.cz) a ∧ RdS A 2 f.sn (ints f.sz) b ∧
    (∀ z, blkOf a = some z → blkOf sv ≠ some z) ∧ (∀ z, blkOf b = some z → blkOf sv ≠ some z)
theorem FSep.at {A : Hp} {cells : List Value} {sv : Value} {j : Nat} {f : FT} (h : FSep A cells sv j f) : FateAt A cells j f := by
  obtain ⟨a, b, h1, h2, h3, h4, h5, h6, _⟩ := h
  exact ⟨a, b, part4 h1 h2 h3 h4, h1, h2, h3, h4, h5, h6⟩
theorem _root_.Go.Ab.RdS.keepB {A A' : Hp} {k n : Nat} {cs : List Value} {sv : Value} (h : RdS A k n cs sv) (hA : ∀ z, blkOf sv = some z → A'.get z = A.get z) : RdS A' k n cs sv := by
  obtain ⟨h0, h | ⟨b, c, ro, rfl, h2⟩⟩ := h
  · exact ⟨h0, .inl h⟩
  · exact ⟨h0, .inr ⟨b, c, ro, rfl, by rw [hA b rfl]; exact h2⟩⟩
theorem _root_.Go.Ab.RdS.blk_lt {A : Hp} {k n : Nat} {cs : List Value} {sv : Value} (h : RdS A k n cs sv) {z : Nat} (hz : blkOf sv = some z) : z < A.n := by
  obtain ⟨h0, ⟨rfl, _⟩ | ⟨b, c, ro, rfl, h2⟩⟩ := h
  · cases hz
  · cases hz; exact Hp.lt_of_get h2
theorem cellAt_left {cs ds : List Value} {o : Nat} {v : Value} (h : cellAt cs o = some v) : cellAt (cs ++ ds) o = some v := by
  have hl := (List.getElem?_eq_some_iff.1 (show cs[o]? = some v from h)).1
  show (cs ++ ds)[o]? = some v
  rw [List.getElem?_append_left hl]; exact h
theorem FSep.next {A A' : Hp} {cells new : List Value} {sv sv' : Value} {j : Nat} {f : FT} (h : FSep A cells sv j f) (hA : ∀ z, z < A.n → blkOf sv ≠ some z → A'.get z = A.get z) (hsv : ∀ z, blkOf sv' = some z → A.n ≤ z) : FSep A' (cells ++ new) sv' j f := by
  obtain ⟨a, b, h1, h2, h3, h4, h5, h6, h7, h8⟩ := h
  refine ⟨a, b, cellAt_left h1, cellAt_left h2, cellAt_left h3, cellAt_left h4, h5.keepB fun z hz => hA z (h5.blk_lt hz) (h7 z hz), h6.keepB fun z hz => hA z (h6.blk_lt hz) (h8 z hz), fun z hz h => ?_, fun z hz h => ?_⟩
  · have := hsv z h; have := h5.blk_lt hz; omega
  · have := hsv z h; have := h6.blk_lt hz; omega
theorem partA_of {cs : List Value} {o : Nat} {vs : List Value} (h : ∀ (j : Nat) v, vs[j]? = some v → cs[o + j]? = some v) (h0 : 0 < vs.length) : partA cs o (some vs.length) = some (.agg ⟨vs⟩) := by
  have hl : o + vs.length ≤ cs.length := by
    have := h (vs.length - 1) vs[vs.length - 1] (List.getElem?_eq_getElem (by omega))
    have := (List.getElem?_eq_some_iff.1 this).1
    omega
  rw [partA_some hl]
  congr 3
  apply List.ext_getElem?
  intro i
  rw [List.getElem?_take]
  by_cases hi : i < vs.length
  · rw [if_pos hi, List.getElem?_drop, List.getElem?_eq_getElem hi]
    exact h i _ (List.getElem?_eq_getElem hi)
  · rw [if_neg hi, List.getElem?_eq_none (by omega)]
def SSep (A : Hp) (cells : List Value) (sv : Value) (j : Nat) (s : StepT) : Prop :=
  ∃ a, (∀ (o : Nat) v, (stepC a s)[o]? = some v → cells[j * 7 + o]? = some v) ∧ RdS A 1 s.an (ints s.al) a ∧ (∀ z, blkOf a = some z → blkOf sv ≠ some z)
theorem SSep.next {A A' : Hp} {cells new : List Value} {sv sv' : Value} {j : Nat} {s : StepT} (h : SSep A cells sv j s) (hA : ∀ z, z < A.n → blkOf sv ≠ some z → A'.get z = A.get z) (hsv : ∀ z, blkOf sv' = some z → A.n ≤ z) : SSep A' (cells ++ new) sv' j s := by
  obtain ⟨a, h1, h2, h3⟩ := h
  refine ⟨a, fun o v ho => ?_, h2.keepB fun z hz => hA z (h2.blk_lt hz) (h3 z hz), fun z hz h => ?_⟩
  · have := h1 o v ho
    rw [List.getElem?_append_left (List.getElem?_eq_some_iff.1 this).1]; exact this
  · have := hsv z h; have := h2.blk_lt hz; omega
structure Ch (A : Hp) (X3 X1 : Nat) (k : Int) : Prop where
  next : A.get X3 = some (.cells [.int .i64 k] false)
  k0 : 0 ≤ k
  list : ∃ n zs sl ro, A.get X1 = some (.cells [sl] ro) ∧ RdS A 1 n (kints .u8 zs) sl ∧ n < 9223372036854775808 ∧ (∀ j, 0 ≤ gi zs j ∧ gi zs j ≤ 255) ∧ (∀ z, blkOf sl = some z → z ≠ X3)
  ne : X1 ≠ X3
theorem Ch.but {A A' : Hp} {X3 X1 : Nat} {k k' : Int} (h : Ch A X3 X1 k) (hb : But X3 A A') (hn : A'.get X3 = some (.cells [.int .i64 k'] false)) (hk : 0 ≤ k') : Ch A' X3 X1 k' := by
  obtain ⟨h1, h2, ⟨n, zs, sl, ro, h3, h4, h5, h6, h7⟩, h8⟩ := h
  exact ⟨hn, hk, ⟨n, zs, sl, ro, (hb.2 X1 (Hp.lt_of_get h3) h8).trans h3, h4.keepB fun z hz => hb.2 z (h4.blk_lt hz) (h7 z hz), h5, h6, h7⟩, h8⟩
theorem Ch.ext {A A' : Hp} {X3 X1 : Nat} {k : Int} (h : Ch A X3 X1 k) (he : Ext' A A') : Ch A' X3 X1 k := h.but (But.of_ext he) (he.get h.next) h.k0
def wallC (cr st toe m0 m1 m2 wear : Int) (lv wd tr : Value) : List Value := [.int .i16 cr, .int .i16 st, .int .i16 toe, .int .u8 m0, .int .u8 m1, .int .u8 m2, .int .u8 wear, lv, wd, tr]
structure WallIn (A : Hp) (cs : List Value) (n : Nat) : Prop where
  e : ∃ (cr st toe m0 m1 m2 wear : Int) (lv wd tr : Value) (m q : Nat) (xs ys us : List Int), cs = wallC cr st toe m0 m1 m2 wear lv wd tr ∧ (-32768 ≤ cr ∧ cr ≤ 32767) ∧ (-32768 ≤ st ∧ st ≤ 32767) ∧ (-32768 ≤ toe ∧ toe ≤ 32767) ∧ (0 ≤ m0 ∧ m0 ≤ 255) ∧ (0 ≤ m1 ∧ m1 ≤ 255) ∧ (0 ≤ m2 ∧ m2 ≤ 255) ∧ (0 ≤ wear ∧ wear ≤ 255) ∧
    RdS A 1 n (kints .i16 xs) lv ∧ (∀ j, -32768 ≤ gi xs j ∧ gi xs j ≤ 32767) ∧ RdS A 1 m (kints .u8 ys) wd ∧ m < 9223372036854775808 ∧ (∀ j, 0 ≤ gi ys j ∧ gi ys j ≤ 255) ∧ RdS A 1 q (kints .u8 us) tr ∧ q < 9223372036854775808 ∧ (∀ j, 0 ≤ gi us j ∧ gi us j ≤ 255)
structure WallOk (S : Sec) : Prop where
  c : -2000 < S.cl ∧ S.cl ≤ S.ch ∧ S.ch < 2300
  s : -2000 < S.sl ∧ S.sl ≤ S.sh ∧ S.sh < 2300
  t : -2000 < S.toe ∧ S.toe < 2000
  w : 0 ≤ S.wl ∧ S.wl ≤ S.wh ∧ S.wh ≤ 60
def LevOk (n : Nat) (zs : List Int) : Prop := zs.length = n * 2 ∧ ∀ j, j < n → -3000 < gi zs (j * 2) ∧ gi zs (j * 2) ≤ gi zs (j * 2 + 1) ∧ gi zs (j * 2 + 1) < 3300
theorem LevOk.next {n : Nat} {zs : List Int} {lo hi : Int} (h : LevOk n zs) (h1 : -3000 < lo) (h2 : lo ≤ hi) (h3 : hi < 3300) : LevOk (n + 1) (zs ++ [lo, hi]) := by
  obtain ⟨hl, ha⟩ := h
  refine ⟨by simp [hl]; omega, fun j hj => ?_⟩
  have g1 : ∀ o, o < zs.length → gi (zs ++ [lo, hi]) o = gi zs o := fun o ho => by unfold gi; simp [List.getD_eq_getElem?_getD, List.getElem?_append_left ho]
  rcases Nat.lt_or_ge j n with h | h
  · rw [g1 _ (by omega), g1 _ (by omega)]; exact ha j h
  · have : j = n := by omega
    subst this
    have a1 : gi (zs ++ [lo, hi]) (j * 2) = lo := by unfold gi; rw [List.getD_eq_getElem?_getD, List.getElem?_append_right (by omega), show j * 2 - zs.length = 0 by omega]; rfl
    have a2 : gi (zs ++ [lo, hi]) (j * 2 + 1) = hi := by unfold gi; rw [List.getD_eq_getElem?_getD, List.getElem?_append_right (by omega), show j * 2 + 1 - zs.length = 1 by omega]; rfl
    rw [a1, a2]; exact ⟨h1, h2, h3⟩
structure HB (k : Nat) (s : HS) : Prop where
  a : -(2000 + 60 * (k : Int)) ≤ s.wc ∧ s.wc ≤ 2300
  b : -(2000 + 60 * (k : Int)) ≤ s.ws ∧ s.ws ≤ 2300
  c : -(2000 + 60 * (k : Int)) ≤ s.sc ∧ s.sc ≤ 2300
  d : -(2000 + 60 * (k : Int)) ≤ s.ss ∧ s.ss ≤ 2300
  may : -1 ≤ s.may ∧ s.may < k
  must : -1 ≤ s.must ∧ s.must < k
structure HStep (S : Sec) (lo hi : Int) (k : Nat) (s s' : HS) : Prop where
  a : s'.wc = if S.toe < hi then s.wc - S.wh else s.wc
  b : s'.ws = if S.toe < hi then s.ws - S.wh else s.ws
  c : s'.sc = if S.toe < lo then s.sc - S.wl else s.sc
  d : s'.ss = if S.toe < lo then s.ss - S.wl else s.ss
  may : s'.may = if s.may < 0 ∧ min s.wc s.ws < hi then (k : Int) else s.may
  must : s'.must = if s.must < 0 ∧ min s.sc s.ss < lo then (k : Int) else s.must
structure Liv (s : HS) (k : Nat) (c h f : Int) : Prop where
  a : s.wc ≤ c ∧ c ≤ s.sc
  b : s.ws ≤ h ∧ h ≤ s.ss
  f0 : -1 ≤ f ∧ f < k
  may : 0 ≤ f → 0 ≤ s.may ∧ s.may ≤ f
  must : 0 ≤ s.must → 0 ≤ f ∧ f ≤ s.must
theorem Liv.next {S : Sec} {lo hi v c h f w : Int} {k : Nat} {s s' : HS} (hl : Liv s k c h f) (hs : HStep S lo hi k s s') (hw : 0 ≤ S.wl ∧ S.wl ≤ S.wh) (hm : -1 ≤ s.may ∧ s.may < k) (hu : -1 ≤ s.must ∧ s.must < k) (hv : lo ≤ v ∧ v ≤ hi) (hw2 : S.wl ≤ w ∧ w ≤ S.wh) :
    Liv s' (k + 1) (if S.toe < v then c - w else c) (if S.toe < v then h - w else h) (if f < 0 ∧ (c < v ∨ h < v) then (k : Int) else f) := by
  obtain ⟨a, b, f0, may, must⟩ := hl
  obtain ⟨ea, eb, ec, ed, em, eu⟩ := hs
  refine ⟨⟨?_, ?_⟩, ⟨?_, ?_⟩, ?_, ?_, ?_⟩
  · rw [ea]; split <;> split <;> omega
  · rw [ec]; split <;> split <;> omega
  · rw [eb]; split <;> split <;> omega
  · rw [ed]; split <;> split <;> omega
  · split <;> omega
  · rw [em]; split <;> split <;> omega
  · rw [eu]; split <;> split <;> omega
theorem nar_may {sm pm a a' hi hi' : Int} {k : Nat} (h : 0 ≤ pm → 0 ≤ sm ∧ sm ≤ pm) (ha : a ≤ a') (hh : hi' ≤ hi) (hm : -1 ≤ sm ∧ sm < k) (hm' : -1 ≤ pm ∧ pm < k) :
    0 ≤ (if pm < 0 ∧ a' < hi' then (k : Int) else pm) → 0 ≤ (if sm < 0 ∧ a < hi then (k : Int) else sm) ∧ (if sm < 0 ∧ a < hi then (k : Int) else sm) ≤ (if pm < 0 ∧ a' < hi' then (k : Int) else pm) := by
  split <;> split <;> omega
structure Nar (s p : HS) (k : Nat) : Prop where
  a : s.wc ≤ p.wc ∧ p.wc ≤ p.sc ∧ p.sc ≤ s.sc
  b : s.ws ≤ p.ws ∧ p.ws ≤ p.ss ∧ p.ss ≤ s.ss
  may : 0 ≤ p.may → 0 ≤ s.may ∧ s.may ≤ p.may
  must : 0 ≤ s.must → 0 ≤ p.must ∧ p.must ≤ s.must
theorem Nar.next {S P : Sec} {lo hi lo' hi' : Int} {k : Nat} {s s' p p' : HS} (hn : Nar s p k) (hs : HStep S lo hi k s s') (hp : HStep P lo' hi' k p p') (ht : P.toe = S.toe) (hw : 0 ≤ S.wl ∧ S.wl ≤ P.wl ∧ P.wl ≤ P.wh ∧ P.wh ≤ S.wh) (hl : lo ≤ lo' ∧ lo' ≤ hi' ∧ hi' ≤ hi)
    (hm : -1 ≤ s.may ∧ s.may < k) (hu : -1 ≤ s.must ∧ s.must < k) (hm' : -1 ≤ p.may ∧ p.may < k) (hu' : -1 ≤ p.must ∧ p.must < k) : Nar s' p' (k + 1) := by
  obtain ⟨a, b, may, must⟩ := hn
  obtain ⟨ea, eb, ec, ed, em, eu⟩ := hs
  obtain ⟨fa, fb, fc, fd, fm, fu⟩ := hp
  rw [ht] at fa fb fc fd
  refine ⟨⟨?_, ?_, ?_⟩, ⟨?_, ?_, ?_⟩, ?_, ?_⟩
  · rw [ea, fa]; split <;> split <;> omega
  · rw [fa, fc]; split <;> split <;> omega
  · rw [ec, fc]; split <;> split <;> omega
  · rw [eb, fb]; split <;> split <;> omega
  · rw [fb, fd]; split <;> split <;> omega
  · rw [ed, fd]; split <;> split <;> omega
  · rw [em, fm]
    exact nar_may may (by omega) hl.2.2 hm hm'
  · rw [eu, fu]
    exact nar_may must (by omega) hl.1 hu' hu
structure Narrower (S P : Sec) (n : Nat) (zs ys : List Int) : Prop where
  c : S.cl ≤ P.cl ∧ P.cl ≤ P.ch ∧ P.ch ≤ S.ch
  s : S.sl ≤ P.sl ∧ P.sl ≤ P.sh ∧ P.sh ≤ S.sh
  w : S.wl ≤ P.wl ∧ P.wl ≤ P.wh ∧ P.wh ≤ S.wh
  t : P.toe = S.toe
  l : ∀ j, j < n → gi zs (j * 2) ≤ gi ys (j * 2) ∧ gi ys (j * 2) ≤ gi ys (j * 2 + 1) ∧ gi ys (j * 2 + 1) ≤ gi zs (j * 2 + 1)
section
variable {g : Nat} {rd : Option Nat} {T : List Value} {D : List Nat} {A : Hp} {Q : Ex → St → Prop} {V : Value → Hp → Prop}
structure Lists (S : Sec) (zs : List Int) (i : Nat) (cL hL : List Int) : Prop where
  lc : cL.length = i + 1
  lh : hL.length = i + 1
  all : ∀ j, j ≤ i → ((holdS S zs j).wc ≤ gi cL j ∧ gi cL j ≤ (holdS S zs j).sc) ∧ ((holdS S zs j).ws ≤ gi hL j ∧ gi hL j ≤ (holdS S zs j).ss)
theorem gi_left {l : List Int} {v : Int} {j : Nat} (h : j < l.length) : gi (l ++ [v]) j = gi l j := by unfold gi; simp [List.getD_eq_getElem?_getD, List.getElem?_append_left h]
theorem gi_last {l : List Int} {v : Int} {j : Nat} (h : j = l.length) : gi (l ++ [v]) j = v := by subst h; unfold gi; simp [List.getD_eq_getElem?_getD]
theorem Lists.next {S : Sec} {zs : List Int} {i : Nat} {cL hL : List Int} {c h f : Int} (hl : Lists S zs i cL hL) (hv : Liv (holdS S zs (i + 1)) (i + 1) c h f) : Lists S zs (i + 1) (cL ++ [c]) (hL ++ [h]) := by
  obtain ⟨l1, l2, ha⟩ := hl
  refine ⟨by simp [l1], by simp [l2], fun j hj => ?_⟩
  rcases Nat.lt_or_ge j (i + 1) with h' | h'
  · rw [gi_left (by omega), gi_left (by omega)]; exact ha j (by omega)
  · have : j = i + 1 := by omega
    subst this
    rw [gi_last (by omega), gi_last (by omega)]; exact ⟨hv.a, hv.b⟩
end
section
variable {g : Nat} {rd : Option Nat} {T : List Value} {D : List Nat} {A : Hp} {Q : Ex → St → Prop} {V : Value → Hp → Prop}
def NarL (n : Nat) (zs ys : List Int) : Prop := ys.length = n * 2 ∧ ∀ j, j < n → gi zs (j * 2) ≤ gi ys (j * 2) ∧ gi ys (j * 2) ≤ gi ys (j * 2 + 1) ∧ gi ys (j * 2 + 1) ≤ gi zs (j * 2 + 1)
theorem NarL.next {n : Nat} {zs ys : List Int} {a b : Int} (h : NarL n zs ys) (h1 : gi zs (n * 2) ≤ a) (h2 : a ≤ b) (h3 : b ≤ gi zs (n * 2 + 1)) : NarL (n + 1) zs (ys ++ [a, b]) := by
  obtain ⟨hl, ha⟩ := h
  refine ⟨by simp [hl]; omega, fun j hj => ?_⟩
  have g1 : ∀ o, o < ys.length → gi (ys ++ [a, b]) o = gi ys o := fun o ho => by unfold gi; simp [List.getD_eq_getElem?_getD, List.getElem?_append_left ho]
  rcases Nat.lt_or_ge j n with h | h
  · rw [g1 _ (by omega), g1 _ (by omega)]; exact ha j h
  · have : j = n := by omega
    subst this
    have a1 : gi (ys ++ [a, b]) (j * 2) = a := by unfold gi; rw [List.getD_eq_getElem?_getD, List.getElem?_append_right (by omega), show j * 2 - ys.length = 0 by omega]; rfl
    have a2 : gi (ys ++ [a, b]) (j * 2 + 1) = b := by unfold gi; rw [List.getD_eq_getElem?_getD, List.getElem?_append_right (by omega), show j * 2 + 1 - ys.length = 1 by omega]; rfl
    rw [a1, a2]; exact ⟨h1, h2, h3⟩
end
structure NarS (S P : Sec) : Prop where
  c : S.cl ≤ P.cl ∧ P.cl ≤ P.ch ∧ P.ch ≤ S.ch
  s : S.sl ≤ P.sl ∧ P.sl ≤ P.sh ∧ P.sh ≤ S.sh
  w : S.wl ≤ P.wl ∧ P.wl ≤ P.wh ∧ P.wh ≤ S.wh
  t : P.toe = S.toe
structure JobT where
  lo : Int
  more : Int
  after : Int
  calm : Bool
  truth : Int
def jobC (j : JobT) : List Value := [.int .u16 j.lo, .int .u16 j.more, .int .u16 j.after, .bool j.calm, .int .u16 j.truth]
def Jobs (A : Hp) (n : Nat) (J : Nat → JobT) (sl : Value) : Prop := ∃ cells, RdS A 5 n cells sl ∧ ∀ i, i < n → partA cells (i * 5) (some 5) = some (.agg ⟨jobC (J i)⟩)
theorem Jobs.ext {A A' : Hp} {n : Nat} {J : Nat → JobT} {sl : Value} (h : Jobs A n J sl) (he : Ext' A A') : Jobs A' n J sl := by
  obtain ⟨cells, h1, h2⟩ := h
  exact ⟨cells, he.rdS h1, h2⟩
theorem Jobs.len {A : Hp} {n : Nat} {J : Nat → JobT} {sl : Value} (h : Jobs A n J sl) : lenV sl = some (.int .i64 n) := by obtain ⟨_, h1, _⟩ := h; exact h1.len
theorem Jobs.at {A : Hp} {n i : Nat} {J : Nat → JobT} {sl : Value} (h : Jobs A n J sl) (hi : i < n) : ∃ x c ro cells, sl = .slice (some ⟨x, 0, some 5⟩) n c ∧ A.get x = some (.cells cells ro) ∧ ∀ j, j < n → partA cells (j * 5) (some 5) = some (.agg ⟨jobC (J j)⟩) := by
  obtain ⟨cells, h1, h2⟩ := h
  obtain ⟨x, c, ro, h3, h4⟩ := h1.at hi
  exact ⟨x, c, ro, cells, h3, h4, h2⟩
def Grow (N : Nat) (A : Hp) (n : Nat) (S : Nat → StepT) (sv : Value) : Prop := ∃ cells, AccS N A 7 cells sv ∧ cells.length = n * 7 ∧ ∀ j, j < n → SSep A cells sv j (S j)
theorem Grow.mono {N : Nat} {A A' : Hp} {n : Nat} {S : Nat → StepT} {sv : Value} (h : Grow N A n S sv) (he : Ext' A A') : Grow N A' n S sv := by
  obtain ⟨cells, h1, h2, h3⟩ := h
  refine ⟨cells, h1.mono he.2, h2, fun j hj => ?_⟩
  obtain ⟨a, p1, p2, p3⟩ := h3 j hj
  exact ⟨a, p1, he.rdS p2, p3⟩
def WSub (ws : List Int) (nw : Nat) (ws' : List Int) (nw' : Nat) : Prop := ∀ j, j < nw' → ∃ i, i < nw ∧ gi ws (i * 2) = gi ws' (j * 2) ∧ gi ws (i * 2 + 1) = gi ws' (j * 2 + 1)
theorem WSub.refl (ws : List Int) (nw : Nat) : WSub ws nw ws nw := fun j hj => ⟨j, hj, rfl, rfl⟩
def swp (L : List (Int × Int)) (i k : Nat) : List (Int × Int) := (L.set i (L.getD k (0, 0))).set k (L.getD i (0, 0))
theorem swp_length {L : List (Int × Int)} {i k : Nat} : (swp L i k).length = L.length := by simp [swp]
theorem swp_get {L : List (Int × Int)} {i k q : Nat} (hi : i < L.length) (hk : k < L.length) (hq : q < L.length) : (swp L i k).getD q (0, 0) = if q = k then L.getD i (0, 0) else if q = i then L.getD k (0, 0) else L.getD q (0, 0) := by
  unfold swp
  rw [List.getD_eq_getElem?_getD, List.getElem?_set]
  by_cases h1 : k = q
  · subst h1; simp [hk]
  · rw [if_neg h1, if_neg (fun h => h1 h.symm), List.getElem?_set]
    by_cases h2 : i = q
    · subst h2; simp [hi]
    · rw [if_neg h2, if_neg (fun h => h2 h.symm)]; simp [hq]
theorem mem_getD {L : List (Int × Int)} {x : Int × Int} : x ∈ L ↔ ∃ q, q < L.length ∧ L.getD q (0, 0) = x := by
  rw [List.mem_iff_getElem]
  constructor
  · rintro ⟨q, hq, e⟩; exact ⟨q, hq, by simp [hq, e]⟩
  · rintro ⟨q, hq, e⟩; exact ⟨q, hq, by simpa [hq] using e⟩
theorem swp_mem {L : List (Int × Int)} {i k : Nat} (hi : i < L.length) (hk : k < L.length) {x : Int × Int} : x ∈ swp L i k ↔ x ∈ L := by
  rw [mem_getD, mem_getD]
  constructor
  · rintro ⟨q, hq, e⟩
    rw [swp_length] at hq
    rw [swp_get hi hk hq] at e
    split at e
    · exact ⟨i, hi, e⟩
    · split at e
      · exact ⟨k, hk, e⟩
      · exact ⟨q, hq, e⟩
  · rintro ⟨q, hq, e⟩
    by_cases h1 : q = i
    · refine ⟨k, by rw [swp_length]; exact hk, ?_⟩
      rw [swp_get hi hk hk, if_pos rfl, ← h1]; exact e
    · by_cases h2 : q = k
      · refine ⟨i, by rw [swp_length]; exact hi, ?_⟩
        rw [swp_get hi hk hi]
        by_cases h3 : i = k
        · rw [if_pos h3]; rw [h2, ← h3] at e; exact e
        · rw [if_neg h3, if_pos rfl, ← h2]; exact e
      · exact ⟨q, by rw [swp_length]; exact hq, by rw [swp_get hi hk hq, if_neg h2, if_neg h1]; exact e⟩
structure HpS (N : Nat) (A : Hp) (sv : Value) (L : List (Int × Int)) : Prop where
  e : (sv = .slice none 0 0 ∧ L = []) ∨ ∃ b c cs, sv = .slice (some ⟨b, 0, some 2⟩) L.length c ∧ A.get b = some (.cells cs false) ∧ cs.length = c * 2 ∧ L.length ≤ c ∧ N ≤ b ∧ ∀ q, q < L.length → cs[q * 2]? = some (.int .i64 (L.getD q (0, 0)).1) ∧ cs[q * 2 + 1]? = some (.int .i64 (L.getD q (0, 0)).2)
theorem HpS.len {N : Nat} {A : Hp} {sv : Value} {L : List (Int × Int)} (h : HpS N A sv L) : lenV sv = some (.int .i64 L.length) := by
  rcases h.e with ⟨rfl, rfl⟩ | ⟨b, c, cs, rfl, _⟩ <;> rfl
theorem HpS.row {N : Nat} {A : Hp} {sv : Value} {L : List (Int × Int)} (h : HpS N A sv L) (h0 : 0 < L.length) : ∃ b c cs, sv = .slice (some ⟨b, 0, some 2⟩) L.length c ∧ A.get b = some (.cells cs false) ∧ cs.length = c * 2 ∧ L.length ≤ c ∧ N ≤ b ∧ ∀ q, q < L.length → cs[q * 2]? = some (.int .i64 (L.getD q (0, 0)).1) ∧ cs[q * 2 + 1]? = some (.int .i64 (L.getD q (0, 0)).2) := by
  rcases h.e with ⟨_, rfl⟩ | h
  · simp at h0
  · exact h
theorem row_part {cs : List Value} {q : Nat} {a b : Int} (h1 : cs[q * 2]? = some (.int .i64 a)) (h2 : cs[q * 2 + 1]? = some (.int .i64 b)) : partA cs (q * 2) (some 2) = some (.agg ⟨[.int .i64 a, .int .i64 b]⟩) :=
  partA_of (vs := [.int .i64 a, .int .i64 b]) (fun j v hv => by
    match j with
    | 0 => rw [← (show _ = some v from hv)]; exact h1
    | 1 => rw [← (show _ = some v from hv)]; exact h2
    | j + 2 => cases hv) (by simp)
theorem HpS.keep {N : Nat} {A A' : Hp} {sv : Value} {L : List (Int × Int)} (h : HpS N A sv L) (hA : ∀ b, blkOf sv = some b → A'.get b = A.get b) : HpS N A' sv L := by
  rcases h.e with ⟨rfl, rfl⟩ | ⟨b, c, cs, rfl, h1, h2, h3, h4, h5⟩
  · exact ⟨.inl ⟨rfl, rfl⟩⟩
  · exact ⟨.inr ⟨b, c, cs, rfl, by rw [hA b rfl]; exact h1, h2, h3, h4, h5⟩⟩
theorem HpS.blk {N : Nat} {A : Hp} {sv : Value} {L : List (Int × Int)} (h : HpS N A sv L) {b : Nat} (hb : blkOf sv = some b) : N ≤ b ∧ b < A.n := by
  rcases h.e with ⟨rfl, rfl⟩ | ⟨b', c, cs, rfl, h1, _, _, h4, _⟩
  · cases hb
  · cases hb; exact ⟨h4, Hp.lt_of_get h1⟩
theorem HpS.add {N g : Nat} {A : Hp} {sv : Value} {L : List (Int × Int)} {x y : Int} {ro : Bool} (h : HpS N A sv L) (hg : g ≤ N) (hN : N ≤ A.n) (hr : L.length < 1000000000000) :
    ∃ sv' A', appendA g (A.push (.cells [.int .i64 x, .int .i64 y] ro)) 2 16 sv (.slice (some ⟨A.n, 0, some 2⟩) 1 1) = some (sv', A') ∧ HpS N A' sv' (L ++ [(x, y)]) ∧ (∀ z, z < A.n → blkOf sv ≠ some z → A'.get z = A.get z) ∧ A.n ≤ A'.n ∧ ∀ z, z < A.n → blkOf sv' = some z → blkOf sv = some z := by
  have hcells : cellsAt (A.push (.cells [.int .i64 x, .int .i64 y] ro)) (1 * 2) (.slice (some ⟨A.n, 0, some 2⟩) 1 1) = some [.int .i64 x, .int .i64 y] := by
    simp only [cellsAt, get_push_new]
    rfl
  have hlast : ∀ q, q < (L ++ [(x, y)]).length → (L ++ [(x, y)]).getD q (0, 0) = if q = L.length then (x, y) else L.getD q (0, 0) := fun q hq => by
    simp only [List.length_append, List.length_singleton] at hq
    rw [List.getD_eq_getElem?_getD, List.getD_eq_getElem?_getD]
    by_cases h1 : q = L.length
    · rw [if_pos h1, h1, List.getElem?_append_right (Nat.le_refl _)]; simp
    · rw [if_neg h1, List.getElem?_append_left (by omega)]
  rcases h.e with ⟨rfl, rfl⟩ | ⟨b, c, cs, rfl, hb, hc, hlc, hNb, hat⟩
  · refine ⟨.slice (some ⟨A.n + 1, 0, some 2⟩) 1 1, (A.push (.cells [.int .i64 x, .int .i64 y] ro)).push (.cells [.int .i64 x, .int .i64 y] false), ?_, ⟨.inr ⟨A.n + 1, 1, _, rfl, by rw [get_push_eq (by simp)], rfl, Nat.le_refl _, by omega, fun q hq => ?_⟩⟩, fun z hz _ => by rw [get_push_old (by simp; omega), get_push_old hz], by simp; omega, fun z hz h => by cases h; omega⟩
    · unfold appendA
      simp only [hcells]
      rfl
    · have : q = 0 := by simpa using hq
      subst this
      exact ⟨rfl, rfl⟩
  · have hbn := Hp.lt_of_get hb
    have hb1 : (A.push (.cells [.int .i64 x, .int .i64 y] ro)).get b = some (.cells cs false) := by rw [get_push_old hbn]; exact hb
    unfold appendA
    simp only [hcells]
    rw [if_pos ⟨rfl, by decide⟩, if_neg (by decide)]
    simp only [hb1]
    rw [if_pos ⟨by omega, by unfold room; omega, by unfold room; omega, trivial⟩]
    by_cases hfull : L.length = c
    · rw [if_pos (by omega)]
      refine ⟨_, _, rfl, ⟨.inr ⟨A.n + 1, L.length + 1, cs ++ [.int .i64 x, .int .i64 y], by simp, by rw [Hp.get_push, Hp.n_set, Hp.n_push, if_pos rfl]; simp, by simp [hc]; omega, by simp, by omega, fun q hq => ?_⟩⟩, fun z hz hzb => ?_, by simp; omega, fun z hz h => ?_⟩
      · rw [hlast q hq]
        simp only [List.length_append, List.length_singleton] at hq
        by_cases h1 : q = L.length
        · rw [if_pos h1, List.getElem?_append_right (by omega), List.getElem?_append_right (by omega), show q * 2 - cs.length = 0 by omega, show q * 2 + 1 - cs.length = 1 by omega]
          exact ⟨rfl, rfl⟩
        · rw [if_neg h1, List.getElem?_append_left (by omega), List.getElem?_append_left (by omega)]
          exact hat q (by omega)
      · have hzb' : z ≠ b := fun h => hzb (by rw [h]; rfl)
        rw [get_push_old (by simp; omega), get_set_ne (by simp; omega) hzb', get_push_old hz]
      · simp [blkOf] at h; omega
    · rw [if_neg (by omega), if_pos (by omega)]
      have hw : writeA g (A.push (.cells [.int .i64 x, .int .i64 y] ro)) b (0 + L.length * 2) [.int .i64 x, .int .i64 y] = some ((A.push (.cells [.int .i64 x, .int .i64 y] ro)).set b (some (.cells (setRange cs (L.length * 2) [.int .i64 x, .int .i64 y]) false))) := by
        unfold writeA
        rw [if_pos (by omega), hb1, Nat.zero_add]
        simp only
        rw [if_pos ⟨by simp; omega, rfl⟩]
      rw [hw]
      have hsl : (setRange cs (L.length * 2) [Value.int .i64 x, .int .i64 y]).length = cs.length := setRange_length (by simp; omega)
      refine ⟨_, _, rfl, ⟨.inr ⟨b, c, setRange cs (L.length * 2) [.int .i64 x, .int .i64 y], by simp, get_set_same hb1, by omega, by simp; omega, hNb, fun q hq => ?_⟩⟩, fun z hz hzb => ?_, by simp, fun z hz h => h⟩
      · rw [hlast q hq, setRange_get (by simp; omega), setRange_get (by simp; omega)]
        simp only [List.length_append, List.length_singleton] at hq
        simp only [List.length_cons, List.length_nil]
        by_cases h1 : q = L.length
        · rw [if_pos h1, if_pos (by omega), if_pos (by omega), show q * 2 - L.length * 2 = 0 by omega, show q * 2 + 1 - L.length * 2 = 1 by omega]
          exact ⟨rfl, rfl⟩
        · rw [if_neg h1, if_neg (by omega), if_neg (by omega)]
          exact hat q (by omega)
      · have hzb' : z ≠ b := fun h => hzb (by rw [h]; rfl)
        rw [get_set_ne (by simp; omega) hzb', get_push_old hz]
def bef275 : Value := .func (.func 275) ⟨[]⟩ ⟨[]⟩
structure HpA (N XH : Nat) (A : Hp) (L : List (Int × Int)) : Prop where
  e : ∃ sv, A.get XH = some (.cells [sv, bef275] false) ∧ HpS N A sv L
  lt : XH < N
def HeB (A : Hp) (XH z : Nat) : Prop := ∃ sv, A.get XH = some (.cells [sv, bef275] false) ∧ blkOf sv = some z
structure HUp (XH : Nat) (A A' : Hp) : Prop where
  n : A.n ≤ A'.n
  o : ∀ z, z < A.n → z ≠ XH → ¬ HeB A XH z → A'.get z = A.get z
  b : ∀ z, z < A.n → HeB A' XH z → HeB A XH z
theorem HUp.refl (XH : Nat) (A : Hp) : HUp XH A A := ⟨Nat.le_refl _, fun _ _ _ _ => rfl, fun _ _ h => h⟩
theorem HUp.trans {XH : Nat} {A A' A'' : Hp} (h : HUp XH A A') (h' : HUp XH A' A'') : HUp XH A A'' :=
  ⟨Nat.le_trans h.n h'.n, fun z hz hx hb => (h'.o z (Nat.lt_of_lt_of_le hz h.n) hx fun hb' => hb (h.b z hz hb')).trans (h.o z hz hx hb), fun z hz hb => h.b z hz (h'.b z (Nat.lt_of_lt_of_le hz h.n) hb)⟩
theorem HUp.of {XH : Nat} {A A' : Hp} (h : Ext' A A') (hX : XH < A.n) : HUp XH A A' :=
  ⟨h.1, fun z hz _ _ => h.2 z hz, fun z _ hb => by
    obtain ⟨sv, h1, h2⟩ := hb
    exact ⟨sv, by rw [← h.2 XH hX]; exact h1, h2⟩⟩
theorem HUp.same {XH b : Nat} {A A' : Hp} {sv sv' : Value} (hn : A.n ≤ A'.n) (hX : A.get XH = some (.cells [sv, bef275] false)) (hX' : A'.get XH = some (.cells [sv', bef275] false)) (hb : blkOf sv = some b) (hb' : blkOf sv' = some b) (ho : ∀ z, z < A.n → z ≠ XH → z ≠ b → A'.get z = A.get z) : HUp XH A A' := by
  refine ⟨hn, fun z hz hx hnb => ho z hz hx fun h => hnb ⟨sv, hX, by rw [h]; exact hb⟩, fun z hz hB => ?_⟩
  obtain ⟨sv2, h1, h2⟩ := hB
  rw [hX'] at h1
  cases h1
  exact ⟨sv, hX, by rw [hb, ← h2, hb']⟩
theorem HUp.new {XH Y : Nat} {A A' A'' : Hp} (h : HUp XH A A') (hY : A.n ≤ Y) (hX : Y ≠ XH) (hn : A'.n ≤ A''.n) (ho : ∀ z, z ≠ Y → A''.get z = A'.get z) : HUp XH A A'' :=
  ⟨Nat.le_trans h.n hn, fun z hz hx hb => (ho z (by omega)).trans (h.o z hz hx hb), fun z hz hB => by
    obtain ⟨sv, h1, h2⟩ := hB
    exact h.b z hz ⟨sv, by rw [← ho XH (Ne.symm hX)]; exact h1, h2⟩⟩
theorem HpA.ext {N XH : Nat} {A A' : Hp} {L : List (Int × Int)} (h : HpA N XH A L) (he : Ext' A A') : HpA N XH A' L := by
  obtain ⟨sv, h1, h2⟩ := h.e
  exact ⟨⟨sv, he.get h1, h2.keep fun b hb => he.2 b (h2.blk hb).2⟩, h.lt⟩
theorem two_rows {cs : List Value} {c i k : Nat} {L : List (Int × Int)} (hc : cs.length = c * 2) (hl : L.length ≤ c) (hi : i < L.length) (hk : k < L.length) (hat : ∀ q, q < L.length → cs[q * 2]? = some (.int .i64 (L.getD q (0, 0)).1) ∧ cs[q * 2 + 1]? = some (.int .i64 (L.getD q (0, 0)).2)) :
    ∀ q, q < (swp L i k).length → (setRange (setRange cs (i * 2) [.int .i64 (L.getD k (0, 0)).1, .int .i64 (L.getD k (0, 0)).2]) (k * 2) [.int .i64 (L.getD i (0, 0)).1, .int .i64 (L.getD i (0, 0)).2])[q * 2]? = some (.int .i64 ((swp L i k).getD q (0, 0)).1) ∧
      (setRange (setRange cs (i * 2) [.int .i64 (L.getD k (0, 0)).1, .int .i64 (L.getD k (0, 0)).2]) (k * 2) [.int .i64 (L.getD i (0, 0)).1, .int .i64 (L.getD i (0, 0)).2])[q * 2 + 1]? = some (.int .i64 ((swp L i k).getD q (0, 0)).2) := by
  intro q hq
  rw [swp_length] at hq
  generalize hX : [Value.int .i64 (L.getD k (0, 0)).1, .int .i64 (L.getD k (0, 0)).2] = X
  generalize hY : [Value.int .i64 (L.getD i (0, 0)).1, .int .i64 (L.getD i (0, 0)).2] = Y
  have lX : X.length = 2 := by rw [← hX]; rfl
  have lY : Y.length = 2 := by rw [← hY]; rfl
  have l1 : (setRange cs (i * 2) X).length = cs.length := setRange_length (by omega)
  have h : ∀ p, (setRange (setRange cs (i * 2) X) (k * 2) Y)[p]? = if k * 2 ≤ p ∧ p < k * 2 + 2 then Y[p - k * 2]? else if i * 2 ≤ p ∧ p < i * 2 + 2 then X[p - i * 2]? else cs[p]? := fun p => by
    rw [setRange_get (by omega) p, setRange_get (by omega) p, lX, lY]
  rw [swp_get hi hk hq]
  by_cases h1 : q = k
  · rw [if_pos h1]
    refine ⟨?_, ?_⟩
    · rw [h, if_pos (by omega), show q * 2 - k * 2 = 0 by omega, ← hY]; rfl
    · rw [h, if_pos (by omega), show q * 2 + 1 - k * 2 = 1 by omega, ← hY]; rfl
  · rw [if_neg h1]
    by_cases h2 : q = i
    · rw [if_pos h2]
      refine ⟨?_, ?_⟩
      · rw [h, if_neg (by omega), if_pos (by omega), show q * 2 - i * 2 = 0 by omega, ← hX]; rfl
      · rw [h, if_neg (by omega), if_pos (by omega), show q * 2 + 1 - i * 2 = 1 by omega, ← hX]; rfl
    · rw [if_neg h2]
      refine ⟨?_, ?_⟩
      · rw [h, if_neg (by omega), if_neg (by omega)]; exact (hat q hq).1
      · rw [h, if_neg (by omega), if_neg (by omega)]; exact (hat q hq).2
def body278 : ACode := (.block 1
 (.seq
 (.ops [
oM 42 5,
oM 6 42])
 (.seq
 (.seq
 (.ops [
oM 43 5,
oP 44 (.bin .mul (oK 2) (.t 43)),
oC 45 .add 44 1,
oM 46 5,
oP 47 (.bin .mul (oK 2) (.t 46)),
oC 48 .add 47 2,
oP 49 (.slit 2 1 [.int .i64 0] [(0, .t 45), (1, .t 48)]),
oP 50 (.len (.t 49)),
oP 51 (.move (oK 0))])
 (.block 2
 (.loop
 (.seq
 (.ops [
oB 52 .lss 51 50])
 (.seq
 (.cond (.t 52)
 .skip
 (.exit 2))
 (.seq
 (.block 3
 (.seq
 (.ops [
oI 53 49 51 1,
oL 54 53,
oM 8 54])
 (.seq
 (.ops [
oM 55 8,
oM 56 4,
oB 57 .lss 55 56,
oM 58 57,
oN 59 58 true 0,
oQ 60 58 true (.nilCheck (.t 59)),
oQ 61 58 true (.fieldAddr (.t 60) 1),
oQ 62 58 true (.load (.t 61) none),
oN 63 58 true 0,
oQ 64 58 true (.nilCheck (.t 63)),
oQ 65 58 true (.fieldAddr (.t 64) 0),
oQ 66 58 true (.load (.t 65) none),
oN 67 58 true 8,
oQ 68 58 true (.idxS (.t 66) (.t 67) 2),
oQ 69 58 true (.load (.t 68) (some 2)),
oN 70 58 true 0,
oQ 71 58 true (.nilCheck (.t 70)),
oQ 72 58 true (.fieldAddr (.t 71) 0),
oQ 73 58 true (.load (.t 72) none),
oN 74 58 true 6,
oQ 75 58 true (.idxS (.t 73) (.t 74) 2),
oQ 76 58 true (.load (.t 75) (some 2)),
oQ 77 58 true (.call (.t 62) [.t 69, .t 76] false),
oP 78 (.pick (.t 58) (.t 77) (.k (.bool false)))])
 (.cond (.t 78)
 (.ops [
oM 79 8,
oM 6 79])
 .skip))))
 (.ops [
oC 80 .add 51 1,
oM 51 80])))))))
 (.seq
 (.seq
 (.ops [
oM 81 6,
oM 82 5,
oB 83 .eql 81 82])
 (.cond (.t 83)
 (.seq
 (.ops [
oD 84 3 2,
oT 2 84 2])
 .ret)
 .skip))
 (.seq
 (.ops [
oM 85 0,
oP 86 (.nilCheck (.t 85)),
oF 87 86 0,
oL 88 87,
oM 89 5,
oM 90 0,
oP 91 (.nilCheck (.t 90)),
oF 92 91 0,
oL 93 92,
oM 94 6,
oM 95 0,
oP 96 (.nilCheck (.t 95)),
oF 97 96 0,
oL 98 97,
oM 99 6,
oI 100 98 99 2,
oD 101 100 2,
oM 102 0,
oP 103 (.nilCheck (.t 102)),
oF 104 103 0,
oL 105 104,
oM 106 5,
oI 107 105 106 2,
oD 108 107 2,
oI 109 88 89 2,
oT 109 101 2,
oI 110 93 94 2,
oT 110 108 2])
 (.ops [
oM 111 6,
oM 5 111]))))))
section
variable {g : Nat} {rd : Option Nat} {T : List Value} {D : List Nat} {A : Hp} {Q : Ex → St → Prop} {V : Value → Hp → Prop}
end
section
variable {g : Nat} {rd : Option Nat} {T : List Value} {D : List Nat} {A : Hp} {Q : Ex → St → Prop} {V : Value → Hp → Prop}
end
section
variable {g : Nat} {rd : Option Nat} {T : List Value} {D : List Nat} {A : Hp} {Q : Ex → St → Prop} {V : Value → Hp → Prop}
end
theorem _root_.Go.Ab.AccS.row {N n k : Nat} {A : Hp} {cs : List Value} {sv : Value} (h : AccS N A k cs sv) (hl : cs.length = n * k) (hn : 0 < n) (hk : 0 < k) : ∃ X, sv = .slice (some ⟨X, 0, some k⟩) n n ∧ A.get X = some (.cells cs false) ∧ N ≤ X := by
  rcases h with ⟨_, rfl⟩ | ⟨b, m, rfl, hb, hN, hm, _⟩
  · have := Nat.mul_pos hn hk
    simp at hl; omega
  · have : m = n := Nat.eq_of_mul_eq_mul_right hk (hm.symm.trans hl)
    subst this
    exact ⟨b, rfl, hb, hN⟩
def tset1 (S : Nat → StepT) (i : Nat) (v w : Int) (j : Nat) : StepT := if j = i then { S j with tl := v, th := w } else S j
theorem Grow.row {N n i : Nat} {A : Hp} {S : Nat → StepT} {sv : Value} (h : Grow N A n S sv) (hi : i < n) : ∃ X cells, sv = .slice (some ⟨X, 0, some 7⟩) n n ∧ A.get X = some (.cells cells false) ∧ N ≤ X ∧ cells.length = n * 7 ∧ cellAt cells (i * 7 + 2) = some (.int .i64 (S i).tl) ∧ cellAt cells (i * 7 + 3) = some (.int .i64 (S i).th) ∧
    ∀ (v w : Int) (A' : Hp), A'.get X = some (.cells (setRange (setRange cells (i * 7 + 2) [.int .i64 v]) (i * 7 + 3) [.int .i64 w]) false) → (∀ z, z < A.n → z ≠ X → A'.get z = A.get z) → Grow N A' n (tset1 S i v w) sv := by
  obtain ⟨cells, h1, h2, h3⟩ := h
  obtain ⟨X, rfl, hX, hN⟩ := h1.row h2 (by omega) (by decide)
  obtain ⟨ai, q1, _, _⟩ := h3 i hi
  refine ⟨X, cells, rfl, hX, hN, h2, q1 2 _ rfl, q1 3 _ rfl, fun v w A' hX' ho => ?_⟩
  have l1 : (setRange cells (i * 7 + 2) [.int .i64 v]).length = cells.length := setRange_length (by simp; omega)
  have l2 : (setRange (setRange cells (i * 7 + 2) [.int .i64 v]) (i * 7 + 3) [.int .i64 w]).length = cells.length := (setRange_length (by simp; omega)).trans l1
  have hat : ∀ q, (setRange (setRange cells (i * 7 + 2) [.int .i64 v]) (i * 7 + 3) [.int .i64 w])[q]? = if q = i * 7 + 3 then some (.int .i64 w) else if q = i * 7 + 2 then some (.int .i64 v) else cells[q]? := fun q => by
    rw [setRange_get (by simp; omega), setRange_get (by simp; omega)]
    simp only [List.length_singleton]
    by_cases c1 : q = i * 7 + 3
    · rw [if_pos (by omega), if_pos c1, show q - (i * 7 + 3) = 0 by omega]; rfl
    · rw [if_neg (by omega), if_neg c1]
      by_cases c2 : q = i * 7 + 2
      · rw [if_pos (by omega), if_pos c2, show q - (i * 7 + 2) = 0 by omega]; rfl
      · rw [if_neg (by omega), if_neg c2]
  refine ⟨_, .inr ⟨X, n, rfl, hX', hN, by omega, by omega⟩, by omega, fun j hj => ?_⟩
  obtain ⟨a, p1, p2, p3⟩ := h3 j hj
  have hr : ∀ z, blkOf a = some z → A'.get z = A.get z := fun z hz => ho z (p2.blk_lt hz) (fun h => p3 z hz (by rw [h]; rfl))
  by_cases hji : j = i
  · subst hji
    refine (show SSep _ _ _ j (tset1 S j v w j) from ⟨a, fun o x hx => ?_, ?_, p3⟩)
    · rw [hat]
      rw [tset1, if_pos rfl] at hx
      match o with
      | 0 => rw [if_neg (by omega), if_neg (by omega)]; exact p1 0 _ hx
      | 1 => rw [if_neg (by omega), if_neg (by omega)]; exact p1 1 _ hx
      | 2 => rw [if_neg (by omega), if_pos (by omega)]; exact hx
      | 3 => rw [if_pos (by omega)]; exact hx
      | 4 => rw [if_neg (by omega), if_neg (by omega)]; exact p1 4 _ hx
      | 5 => rw [if_neg (by omega), if_neg (by omega)]; exact p1 5 _ hx
      | 6 => rw [if_neg (by omega), if_neg (by omega)]; exact p1 6 _ hx
      | o + 7 => cases hx
    · rw [tset1, if_pos rfl]
      exact p2.keepB hr
  · refine (show SSep _ _ _ j (tset1 S i v w j) from ?_)
    rw [tset1, if_neg hji]
    refine ⟨a, fun o x hx => ?_, p2.keepB hr, p3⟩
    have := p1 o x hx
    have ho7 : o < 7 := by
      have := (List.getElem?_eq_some_iff.1 hx).1
      simpa [stepC] using this
    rw [hat, if_neg (by omega), if_neg (by omega)]; exact this
theorem Grow.same {N n : Nat} {A : Hp} {S S' : Nat → StepT} {sv : Value} (h : Grow N A n S sv) (hs : ∀ j, j < n → S j = S' j) : Grow N A n S' sv := by
  obtain ⟨cells, h1, h2, h3⟩ := h
  exact ⟨cells, h1, h2, fun j hj => hs j hj ▸ h3 j hj⟩
def rowS1 (r n : Nat) : Value := .slice (some ⟨r, 0, some 1⟩) n n
def rep (n : Nat) (v : Int) (i : Nat) : List Int := List.replicate i v ++ List.replicate (n - i) 0
section
variable {g : Nat} {A : Hp} {V : Value → Hp → Prop}
theorem zeros_ints {n : Nat} : zeros n [.int .i64 0] = ints (List.replicate n 0) := by
  unfold zeros ints
  apply List.ext_getElem (by simp)
  intro i h1 h2
  simp [Nat.mod_one]
theorem makeS_ok {n : Nat} (hn : n < 1000000) : makeSA 1 8 [.int .i64 0] (.int .i64 n) (.int .i64 n) A = some (rowS1 A.n n, A.push (.cells (ints (List.replicate n 0)) false)) := by
  unfold makeSA
  simp only
  rw [if_pos ⟨by omega, by omega, by unfold room; omega, by unfold room; omega⟩, zeros_ints]
  rfl
end
def nbD (w h c : Int) (d : Int × Int) : List Int :=
  if (0 ≤ c.tmod w + d.1 ∧ c.tmod w + d.1 ≤ w - 1) ∧ (0 ≤ c.tdiv w + d.2 ∧ c.tdiv w + d.2 ≤ h - 1) then [(c.tdiv w + d.2) * w + (c.tmod w + d.1)] else []
def dirs : List (Int × Int) := [(1, 0), (0, 1), (-1, 0), (0, -1)]
def nbrs (w h c : Int) : List Int := dirs.flatMap (nbD w h c)
def nbI (w h c : Int) (i : Nat) : List Int := (dirs.take i).flatMap (nbD w h c)
def dirI : List Int := [1, 0, 0, 1, -1, 0, 0, -1]
theorem nbI_succ {w h c : Int} {i : Nat} (hi : i < 4) : nbI w h c (i + 1) = nbI w h c i ++ nbD w h c (gi dirI (i * 2), gi dirI (i * 2 + 1)) := by
  have : i = 0 ∨ i = 1 ∨ i = 2 ∨ i = 3 := by omega
  rcases this with rfl | rfl | rfl | rfl <;> simp [nbI, dirs, dirI, gi]
theorem nbI_len {w h c : Int} : ∀ {i : Nat}, i ≤ 4 → (nbI w h c i).length ≤ 4 := by
  intro i hi
  have h1 : ∀ d, (nbD w h c d).length ≤ 1 := fun d => by unfold nbD; split <;> simp
  have a := h1 (1, 0)
  have b := h1 (0, 1)
  have c' := h1 (-1, 0)
  have d := h1 (0, -1)
  have : i = 0 ∨ i = 1 ∨ i = 2 ∨ i = 3 ∨ i = 4 := by omega
  rcases this with rfl | rfl | rfl | rfl | rfl <;> simp [nbI, dirs] <;> omega
theorem nbI_four {w h c : Int} : nbI w h c 4 = nbrs w h c := rfl
theorem dir_small {i : Nat} (hi : i < 4) : (-1 ≤ gi dirI (i * 2) ∧ gi dirI (i * 2) ≤ 1) ∧ (-1 ≤ gi dirI (i * 2 + 1) ∧ gi dirI (i * 2 + 1) ≤ 1) := by
  have : i = 0 ∨ i = 1 ∨ i = 2 ∨ i = 3 := by omega
  rcases this with rfl | rfl | rfl | rfl <;> decide
theorem nbD_range {w h c : Int} {d : Int × Int} {v : Int} (hw : 1 ≤ w) (hv : v ∈ nbD w h c d) : 0 ≤ v ∧ v < w * h := by
  unfold nbD at hv
  split at hv
  · rename_i hc
    obtain ⟨⟨a1, a2⟩, b1, b2⟩ := hc
    rw [List.mem_singleton] at hv
    have e7 : 0 ≤ (c.tdiv w + d.2) * w := Int.mul_nonneg b1 (by omega)
    have e6 : (c.tdiv w + d.2) * w ≤ (h - 1) * w := Int.mul_le_mul_of_nonneg_right b2 (by omega)
    rw [Int.sub_mul, Int.one_mul, Int.mul_comm h w] at e6
    omega
  · cases hv
theorem nbrs_range {w h c : Int} {v : Int} (hw : 1 ≤ w) (hv : v ∈ nbrs w h c) : 0 ≤ v ∧ v < w * h := by
  obtain ⟨d, _, hd⟩ := List.mem_flatMap.1 hv
  exact nbD_range hw hd
theorem cell_parts {w h c : Int} (hw : 1 ≤ w) (h0 : 0 ≤ c) (h1 : c < w * h) : (0 ≤ c.tmod w ∧ c.tmod w < w) ∧ (0 ≤ c.tdiv w ∧ c.tdiv w < h) := by
  refine ⟨⟨Int.tmod_nonneg w h0, Int.tmod_lt_of_pos c (by omega)⟩, Int.tdiv_nonneg h0 (by omega), ?_⟩
  rw [Int.tdiv_eq_ediv_of_nonneg h0]
  exact Int.ediv_lt_of_lt_mul (by omega) (by rw [Int.mul_comm]; exact h1)
section
variable {g : Nat} {rd : Option Nat} {T : List Value} {D : List Nat} {A : Hp} {Q : Ex → St → Prop} {V : Value → Hp → Prop}
theorem w55i {n lo hi : Int} : WF AP KL g 55 [.int .i64 n, .int .i64 lo, .int .i64 hi] A V ↔ V (.bool (decide (lo ≤ n) && decide (n ≤ hi))) A := by
  rw [WF_body (show KL 55 = none from rfl) (show AP 55 = some F55 from rfl)]
  by_cases h : lo ≤ n
  · simp (disch := as_aux_lemma => first | omega | simp only [hDs] <;> omega | simp [isCell]) [hRs, takeMarks, resA, resAll, resOne, Value.cells, F55, h]
  · simp (disch := as_aux_lemma => first | omega | simp only [hDs] <;> omega | simp [isCell]) [hRs, takeMarks, resA, resAll, resOne, Value.cells, F55, h]
theorem loop114 {P : List Int → Hp → Prop} {L G R : Nat} {w h c s : Int} {sl : Value} (hw : 1 ≤ w ∧ w ≤ 24) (hh : 1 ≤ h ∧ h ≤ 24) (hcx : 0 ≤ c.tmod w ∧ c.tmod w < w) (hcy : 0 ≤ c.tdiv w ∧ c.tdiv w < h)
    (hG : ∀ done A, P done A → A.get G = some (.cells [.int .i64 w, .int .i64 h, .int .i64 s, sl] false) ∧ A.get R = some (.cells (ints dirI) false) ∧ g ≤ A.n) (hpush : ∀ done A b, P done A → P done (A.push b))
    (hy : ∀ done d A V, done.length ≤ 4 → P done A → d ∈ nbrs w h c → (∀ A', P (done ++ [d]) A' → V (.bool true) A') → WV AP KL g (.func (.yield L) #[] #[]) [.int .i64 d] A V)
    (hQ : ∀ T' A', P (nbrs w h c) A' → Q (.exit 0) ⟨T', D, A'⟩) :
    ∀ (k i : Nat) {T : List Value} {A : Hp}, i + k = 4 → P (nbI w h c i) A → tget T 0 = .func (.yield L) #[] #[] → tget T 2 = .pointer (some ⟨G, 0, none⟩) → tget T 4 = .int .i64 (c.tmod w) → tget T 5 = .int .i64 (c.tdiv w) → tget T 22 = .slice (some ⟨R, 0, some 2⟩) 4 4 → tget T 23 = .int .i64 4 →
      tget T 24 = .int .i64 i → W AP KL g rd (.loop body114) ⟨T, D, A⟩ Q := by
  intro k
  induction k with
  | zero =>
    intro i T A hi hP t0 t2 t4 t5 t22 t23 t24
    have : i = 4 := by omega
    subst this
    rw [W_loop]
    simp (disch := as_aux_lemma => first | omega | simp only [hDs] <;> omega | simp [isCell]) [hRs, takeMarks, resA, resAll, resOne, Value.cells, body114, t23, t24]
    exact hQ _ _ (by rw [← nbI_four]; exact hP)
  | succ k ih =>
    intro i T A hi hP t0 t2 t4 t5 t22 t23 t24
    have hi4 : i < 4 := by omega
    obtain ⟨hG', hR', hgA⟩ := hG _ _ hP
    have hGn := Hp.lt_of_get hG'
    have hRn := Hp.lt_of_get hR'
    obtain ⟨⟨d1, d2⟩, d3, d4⟩ := dir_small hi4
    have hdl : dirI.length = 8 := rfl
    have hP1 := hpush _ _ (.cells [.int .i64 (gi dirI (i * 2)), .int .i64 (gi dirI (i * 2 + 1))] false) hP
    rw [W_loop]
    have e1 : wr .i64 (c.tmod w + gi dirI (i * 2)) = c.tmod w + gi dirI (i * 2) := wrId (by omega) (by omega)
    have e2 : wr .i64 (c.tdiv w + gi dirI (i * 2 + 1)) = c.tdiv w + gi dirI (i * 2 + 1) := wrId (by omega) (by omega)
    have e3 : wr .i64 (w - 1) = w - 1 := wrId (by omega) (by omega)
    have e4 : wr .i64 (h - 1) = h - 1 := wrId (by omega) (by omega)
    have e5 : wr .i64 ((i : Int) + 1) = ((i + 1 : Nat) : Int) := by rw [wrId (by omega) (by omega)]; simp
    by_cases hx : (0 ≤ c.tmod w + gi dirI (i * 2) ∧ c.tmod w + gi dirI (i * 2) ≤ w - 1)
    · by_cases hy' : (0 ≤ c.tdiv w + gi dirI (i * 2 + 1) ∧ c.tdiv w + gi dirI (i * 2 + 1) ≤ h - 1)
      · have e6 : (c.tdiv w + gi dirI (i * 2 + 1)) * w ≤ 24 * 24 := Int.mul_le_mul (by omega) (by omega) (by omega) (by omega)
        have e7 : 0 ≤ (c.tdiv w + gi dirI (i * 2 + 1)) * w := Int.mul_nonneg (by omega) (by omega)
        have e8 : wr .i64 ((c.tdiv w + gi dirI (i * 2 + 1)) * w) = (c.tdiv w + gi dirI (i * 2 + 1)) * w := wrId (by omega) (by omega)
        have e9 : wr .i64 ((c.tdiv w + gi dirI (i * 2 + 1)) * w + (c.tmod w + gi dirI (i * 2))) = (c.tdiv w + gi dirI (i * 2 + 1)) * w + (c.tmod w + gi dirI (i * 2)) := wrId (by omega) (by omega)
        have hnb : nbD w h c (gi dirI (i * 2), gi dirI (i * 2 + 1)) = [(c.tdiv w + gi dirI (i * 2 + 1)) * w + (c.tmod w + gi dirI (i * 2))] := if_pos ⟨hx, hy'⟩
        have hs4 := nbI_succ (w := w) (h := h) (c := c) hi4
        rw [hnb] at hs4
        simp (disch := as_aux_lemma => first | omega | simp only [hDs] <;> omega | simp [isCell]) [hRs, takeMarks, resA, resAll, resOne, Value.cells, body114, t0, t2, t4, t5, t22, t23, t24, show ((i : Int) < 4) by omega, hi4, idxSA_ok, idxAA_ok, hG', hR', ints_two, hdl, storeB_cells, setRange_all, setRange, set_push_eq, w55i, e1, e2, e3, e4, hx, hy', e8, e9]
        refine hy _ _ _ _ (nbI_len (by omega)) hP1 ?_ fun A' hP' => ?_
        · have hm : (c.tdiv w + gi dirI (i * 2 + 1)) * w + (c.tmod w + gi dirI (i * 2)) ∈ nbD w h c (gi dirI (i * 2), gi dirI (i * 2 + 1)) := by rw [hnb]; exact List.mem_singleton_self _
          have : i = 0 ∨ i = 1 ∨ i = 2 ∨ i = 3 := by omega
          refine List.mem_flatMap.2 ⟨_, ?_, hm⟩
          rcases this with rfl | rfl | rfl | rfl <;> simp [dirs, dirI, gi]
        · simp (disch := as_aux_lemma => first | omega | simp only [hDs] <;> omega | simp [isCell]) [hRs, takeMarks, resA, resAll, resOne, Value.cells, t24, e5]
          refine ih (i + 1) (by omega) (by rw [hs4]; exact hP') ?_ ?_ ?_ ?_ ?_ ?_ ?_
          all_goals simp [t0, t2, t4, t5, t22, t23]
      · have hnb : nbD w h c (gi dirI (i * 2), gi dirI (i * 2 + 1)) = [] := if_neg fun h' => hy' h'.2
        simp (disch := as_aux_lemma => first | omega | simp only [hDs] <;> omega | simp [isCell]) [hRs, takeMarks, resA, resAll, resOne, Value.cells, body114, t0, t2, t4, t5, t22, t23, t24, show ((i : Int) < 4) by omega, hi4, idxSA_ok, idxAA_ok, hG', hR', ints_two, hdl, storeB_cells, setRange_all, setRange, set_push_eq, w55i, e1, e2, e3, e4, hx, show (decide (0 ≤ c.tdiv w + gi dirI (i * 2 + 1)) && decide (c.tdiv w + gi dirI (i * 2 + 1) ≤ h - 1)) = false from by simpa using hy', e5]
        refine ih (i + 1) (by omega) (by rw [nbI_succ hi4, hnb, List.append_nil]; exact hP1) ?_ ?_ ?_ ?_ ?_ ?_ ?_
        all_goals simp [t0, t2, t4, t5, t22, t23]
    · have hnb : nbD w h c (gi dirI (i * 2), gi dirI (i * 2 + 1)) = [] := if_neg fun h' => hx h'.1
      simp (disch := as_aux_lemma => first | omega | simp only [hDs] <;> omega | simp [isCell]) [hRs, takeMarks, resA, resAll, resOne, Value.cells, body114, t0, t2, t4, t5, t22, t23, t24, show ((i : Int) < 4) by omega, hi4, idxSA_ok, idxAA_ok, hG', hR', ints_two, hdl, storeB_cells, setRange_all, setRange, set_push_eq, w55i, e1, e2, e3, e4, show (decide (0 ≤ c.tmod w + gi dirI (i * 2)) && decide (c.tmod w + gi dirI (i * 2) ≤ w - 1)) = false from by simpa using hx, e5]
      refine ih (i + 1) (by omega) (by rw [nbI_succ hi4, hnb, List.append_nil]; exact hP1) ?_ ?_ ?_ ?_ ?_ ?_ ?_
      all_goals simp [t0, t2, t4, t5, t22, t23]
end
theorem gridE_parts {w h s : Int} {m : Nat} {zs : List Int} (h0 : gridE w h s m zs = 0) : (1 ≤ w ∧ w ≤ 24) ∧ (1 ≤ h ∧ h ≤ 24) ∧ (m : Int) = w * h ∧ ∀ i, i < m → -1200000 ≤ gi zs (i * 2) ∧ gi zs (i * 2) ≤ gi zs (i * 2 + 1) ∧ gi zs (i * 2 + 1) ≤ 1200000 := by
  unfold gridE at h0
  split at h0
  · cases h0
  · rename_i h1
    split at h0
    · cases h0
    · rename_i h2
      split at h0
      · cases h0
      · rename_i h3
        simp only [not_or, Bool.not_eq_false, Bool.and_eq_true, decide_eq_true_eq] at h1
        simp only [Decidable.not_not] at h2
        have m1 : w * h ≤ 24 * 24 := Int.mul_le_mul (by omega) (by omega) (by omega) (by omega)
        have m2 : 0 ≤ w * h := Int.mul_nonneg (by omega) (by omega)
        rw [wrId (by omega) (by omega)] at h2
        refine ⟨by omega, by omega, h2, fun i hi => ?_⟩
        rw [List.any_eq_true] at h3
        have hgr : grd zs i = true := by
          cases hgr : grd zs i
          · exact absurd ⟨i, by simpa using hi, by rw [hgr]; rfl⟩ h3
          · rfl
        simp only [grd, validB, Bool.and_eq_true, decide_eq_true_eq] at hgr
        omega
theorem gi_l {l r : List Int} {i : Nat} (h : i < l.length) : gi (l ++ r) i = gi l i := by
  unfold gi; rw [List.getD_eq_getElem?_getD, List.getD_eq_getElem?_getD, List.getElem?_append_left h]
theorem gi_r {l r : List Int} {i j : Nat} (h : l.length = i) : gi (l ++ r) (i + j) = gi r j := by
  unfold gi; rw [List.getD_eq_getElem?_getD, List.getD_eq_getElem?_getD, List.getElem?_append_right (by omega), show i + j - l.length = j by omega]
end Go.Ab.Grid
