/- Closing: when a step ends; windows. -/
import Derived.Test.YtlihoghjchbjlaaZ11
set_option linter.unusedSimpArgs false
set_option linter.unusedVariables false
set_option linter.unusedSectionVars false
namespace Go.Ab.Dike
open Go Go.Ab
def sB (s : ByteArray) (i : Nat) : Int := ((s.data.toList.map fun b => (b.toNat : Int))[i]?).getD 0
theorem bytes_at {s : ByteArray} {i : Nat} (h : i < s.size) : cellAt (bytesOf s) i = some (.int .u8 (sB s i)) := by
  have h' : i < s.data.toList.length := h
  show (bytesOf s)[i]? = _
  simp [bytesOf, sB, List.getElem?_eq_getElem h']
theorem str_at {s : ByteArray} {i : Nat} (h : i < s.size) : strIdxA (.string s) (.int .i64 i) = some (.int .u8 (sB s i)) := by
  have h' : i < s.data.toList.length := h
  simp [strIdxA, sB, List.getElem?_eq_getElem h']
section
variable {a b : Int}
@[simp] theorem _root_.Go.Ab.binA_eql8 : binA .eql (.int .u8 a) (.int .u8 b) = some (.bool (decide (a = b))) := rfl
@[simp] theorem _root_.Go.Ab.binA_neq8 : binA .neq (.int .u8 a) (.int .u8 b) = some (.bool (!decide (a = b))) := rfl
@[simp] theorem _root_.Go.Ab.binA_lss8 : binA .lss (.int .u8 a) (.int .u8 b) = some (.bool (decide (a < b))) := rfl
@[simp] theorem _root_.Go.Ab.binA_leq8 : binA .leq (.int .u8 a) (.int .u8 b) = some (.bool (decide (a ≤ b))) := rfl
@[simp] theorem _root_.Go.Ab.binA_gtr8 : binA .gtr (.int .u8 a) (.int .u8 b) = some (.bool (decide (b < a))) := rfl
@[simp] theorem _root_.Go.Ab.binA_geq8 : binA .geq (.int .u8 a) (.int .u8 b) = some (.bool (decide (b ≤ a))) := rfl
end
def chB (i : Nat) (b : Int) : Bool := (decide (97 ≤ b) && decide (b ≤ 122)) || (decide (i ≠ 0) && (decide (b = 95) || (decide (48 ≤ b) && decide (b ≤ 57))))
def nameB (s : ByteArray) : Bool := decide (1 ≤ s.size) && (decide (s.size ≤ 12) && (List.range s.size).all fun i => chB i (sB s i))
theorem nameB_bad {s : ByteArray} {i : Nat} (hi : i < s.size) (h : chB i (sB s i) = false) : nameB s = false := by
  have : ((List.range s.size).all fun i => chB i (sB s i)) = false := by
    rw [Bool.eq_false_iff]
    intro h'
    have := List.all_eq_true.1 h' i (by simpa using hi)
    rw [h] at this; cases this
  simp [nameB, this]
theorem nameB_all {s : ByteArray} (h : ∀ i, i < s.size → chB i (sB s i) = true) : nameB s = (decide (1 ≤ s.size) && decide (s.size ≤ 12)) := by
  have : ((List.range s.size).all fun i => chB i (sB s i)) = true := List.all_eq_true.2 fun i hi => h i (by simpa using hi)
  simp [nameB, this]
section
variable {g : Nat} {rd : Option Nat} {T : List Value} {D : List Nat} {A : Hp} {Q : Ex → St → Prop} {V : Value → Hp → Prop}
theorem loop166 {X : Nat} {s : ByteArray} {ro : Bool} (hs : s.size < 1000000) (hX : A.get X = some (.cells (bytesOf s) ro)) (hret : ∀ T', nameB s = false → tget T' 2 = .bool false → Q .ret ⟨T', D, A⟩) (hend : ∀ T', (∀ i, i < s.size → chB i (sB s i) = true) → tget T' 0 = .string s → Q (.exit 0) ⟨T', D, A⟩) :
    ∀ (k i : Nat) {T1 : List Value}, i + k = s.size → (∀ j, j < i → chB j (sB s j) = true) → tget T1 0 = .string s → tget T1 7 = .slice (some ⟨X, 0, some 1⟩) s.size s.size → tget T1 8 = .int .i64 s.size → tget T1 9 = .int .i64 i → W AP KL g rd (.loop body166) ⟨T1, D, A⟩ Q := by
  intro k
  induction k with
  | zero =>
    intro i T1 hik hok t0 t7 t8 t9
    have : i = s.size := by omega
    subst this
    rw [W_loop]
    simp (disch := as_aux_lemma => first | omega | simp only [hDs] <;> omega | simp [isCell]) [hRs, takeMarks, resA, resAll, resOne, Value.cells, body166, t8, t9]
    exact hend _ hok (by simp [t0])
  | succ k ih =>
    intro i T1 hik hok t0 t7 t8 t9
    obtain ⟨n, hn⟩ : ∃ n, n = s.size := ⟨_, rfl⟩
    rw [← hn] at t7 t8
    have hb := bytes_at (s := s) (i := i) (by omega)
    obtain ⟨b, hbe⟩ : ∃ b, b = sB s i := ⟨_, rfl⟩
    rw [← hbe] at hb
    have bad : chB i b = false → ∀ T', tget T' 2 = .bool false → Q .ret ⟨T', D, A⟩ := fun h T' t2 => hret _ (nameB_bad (i := i) (by omega) (by rw [← hbe]; exact h)) t2
    have hok' : chB i b = true → ∀ j, j < i + 1 → chB j (sB s j) = true := fun h j hj => by
      rcases Nat.lt_or_ge j i with h' | h'
      · exact hok j h'
      · have : j = i := by omega
        subst this; rw [← hbe]; exact h
    have e3 := wrId (n := (i : Int) + 1) (by omega) (by omega)
    rw [W_loop]
    by_cases c1 : 97 ≤ b
    · by_cases c2 : b ≤ 122
      · simp (disch := as_aux_lemma => first | omega | simp only [hDs] <;> omega | simp [isCell]) [hRs, takeMarks, resA, resAll, resOne, Value.cells, body166, t7, t8, t9, show ((i : Int) < n) by omega, idxSA_ok, hX, hb, e3, c1, c2]
        exact ih (i + 1) (by omega) (hok' (by simp [chB, c1, c2])) (by simp [t0]) (by simp [t7, hn]) (by simp [t8, hn]) (by simp)
      · by_cases d1 : i = 0
        · simp (disch := as_aux_lemma => first | omega | simp only [hDs] <;> omega | simp [isCell]) [hRs, takeMarks, resA, resAll, resOne, Value.cells, body166, t7, t8, t9, show ((i : Int) < n) by omega, idxSA_ok, hX, hb, e3, c1, c2, show decide (i = 0) = true from decide_eq_true d1]
          exact bad (by simp [chB, c1, c2, d1]) _ (by simp)
        · by_cases d2 : b = 95
          · simp (disch := as_aux_lemma => first | omega | simp only [hDs] <;> omega | simp [isCell]) [hRs, takeMarks, resA, resAll, resOne, Value.cells, body166, t7, t8, t9, show ((i : Int) < n) by omega, idxSA_ok, hX, hb, e3, c1, c2, d1, d2]
            exact ih (i + 1) (by omega) (hok' (by simp [chB, c1, c2, d1, d2])) (by simp [t0]) (by simp [t7, hn]) (by simp [t8, hn]) (by simp)
          · by_cases d3 : b < 48
            · simp (disch := as_aux_lemma => first | omega | simp only [hDs] <;> omega | simp [isCell]) [hRs, takeMarks, resA, resAll, resOne, Value.cells, body166, t7, t8, t9, show ((i : Int) < n) by omega, idxSA_ok, hX, hb, e3, c1, c2, d1, d2, d3]
              exact bad (by simp [chB, c1, c2, d1, d2, show ¬ 48 ≤ b by omega]) _ (by simp)
            · by_cases d4 : 57 < b
              · simp (disch := as_aux_lemma => first | omega | simp only [hDs] <;> omega | simp [isCell]) [hRs, takeMarks, resA, resAll, resOne, Value.cells, body166, t7, t8, t9, show ((i : Int) < n) by omega, idxSA_ok, hX, hb, e3, c1, c2, d1, d2, d3, d4]
                exact bad (by simp [chB, c1, c2, d1, d2, show ¬ b ≤ 57 by omega]) _ (by simp)
              · simp (disch := as_aux_lemma => first | omega | simp only [hDs] <;> omega | simp [isCell]) [hRs, takeMarks, resA, resAll, resOne, Value.cells, body166, t7, t8, t9, show ((i : Int) < n) by omega, idxSA_ok, hX, hb, e3, c1, c2, d1, d2, d3, d4]
                exact ih (i + 1) (by omega) (hok' (by simp [chB, c1, c2, d1, d2, show 48 ≤ b by omega, show b ≤ 57 by omega])) (by simp [t0]) (by simp [t7, hn]) (by simp [t8, hn]) (by simp)
    · by_cases d1 : i = 0
      · simp (disch := as_aux_lemma => first | omega | simp only [hDs] <;> omega | simp [isCell]) [hRs, takeMarks, resA, resAll, resOne, Value.cells, body166, t7, t8, t9, show ((i : Int) < n) by omega, idxSA_ok, hX, hb, e3, c1, show decide (i = 0) = true from decide_eq_true d1]
        exact bad (by simp [chB, c1, d1]) _ (by simp)
      · by_cases d2 : b = 95
        · simp (disch := as_aux_lemma => first | omega | simp only [hDs] <;> omega | simp [isCell]) [hRs, takeMarks, resA, resAll, resOne, Value.cells, body166, t7, t8, t9, show ((i : Int) < n) by omega, idxSA_ok, hX, hb, e3, c1, d1, d2]
          exact ih (i + 1) (by omega) (hok' (by simp [chB, c1, d1, d2])) (by simp [t0]) (by simp [t7, hn]) (by simp [t8, hn]) (by simp)
        · by_cases d3 : b < 48
          · simp (disch := as_aux_lemma => first | omega | simp only [hDs] <;> omega | simp [isCell]) [hRs, takeMarks, resA, resAll, resOne, Value.cells, body166, t7, t8, t9, show ((i : Int) < n) by omega, idxSA_ok, hX, hb, e3, c1, d1, d2, d3]
            exact bad (by simp [chB, c1, d1, d2, show ¬ 48 ≤ b by omega]) _ (by simp)
          · by_cases d4 : 57 < b
            · simp (disch := as_aux_lemma => first | omega | simp only [hDs] <;> omega | simp [isCell]) [hRs, takeMarks, resA, resAll, resOne, Value.cells, body166, t7, t8, t9, show ((i : Int) < n) by omega, idxSA_ok, hX, hb, e3, c1, d1, d2, d3, d4]
              exact bad (by simp [chB, c1, d1, d2, show ¬ b ≤ 57 by omega]) _ (by simp)
            · simp (disch := as_aux_lemma => first | omega | simp only [hDs] <;> omega | simp [isCell]) [hRs, takeMarks, resA, resAll, resOne, Value.cells, body166, t7, t8, t9, show ((i : Int) < n) by omega, idxSA_ok, hX, hb, e3, c1, d1, d2, d3, d4]
              exact ih (i + 1) (by omega) (hok' (by simp [chB, c1, d1, d2, show 48 ≤ b by omega, show b ≤ 57 by omega])) (by simp [t0]) (by simp [t7, hn]) (by simp [t8, hn]) (by simp)
theorem strEq_empty {s : ByteArray} : strEq s ⟨⟨[]⟩⟩ = !decide (1 ≤ s.size) := by
  rw [Bool.eq_iff_iff, strEq_iff]
  constructor
  · rintro rfl; rfl
  · intro h
    have h0 : s.size = 0 := by
      rw [Bool.not_eq_true', decide_eq_false_iff_not] at h; omega
    cases s with
    | mk d => exact congrArg _ (Array.eq_empty_of_size_eq_zero h0)
theorem w166 {s : ByteArray} (hs : s.size < 1000000) (hV : ∀ A', Ext' A A' → V (.bool (nameB s)) A') : WF AP KL g 166 [.string s] A V := by
  rw [WF_body (show KL 166 = none from rfl) (show AP 166 = some F166 from rfl)]
  have eX := Ext'.push A (.cells (bytesOf s) true)
  simp (disch := as_aux_lemma => first | omega | simp only [hDs] <;> omega | simp [isCell]) [hRs, takeMarks, resA, resAll, resOne, Value.cells, F166, toBytesA]
  refine loop166 (X := A.n) hs get_push_new ?_ ?_ s.size 0 (by omega) (fun j hj => absurd hj (by omega)) (by simp) (by simp) (by simp) (by simp)
  · intro T' hb t2
    simp (disch := as_aux_lemma => first | omega | simp only [hDs] <;> omega | simp [isCell]) [hRs, takeMarks, resA, resAll, resOne, Value.cells, t2]
    rw [← hb]; exact hV _ eX
  · intro T' hall t0
    have hn := nameB_all hall
    by_cases c1 : 1 ≤ s.size
    · have c1' : strEq s ⟨⟨[]⟩⟩ = false := by rw [strEq_empty, decide_eq_true c1]; rfl
      simp (disch := as_aux_lemma => first | omega | simp only [hDs] <;> omega | simp [isCell]) [hRs, takeMarks, resA, resAll, resOne, Value.cells, t0, strOpA, strA, c1', lenTV, goInt]
      have : V (.bool (nameB s)) _ := hV _ eX
      rw [hn, decide_eq_true c1] at this
      have e : decide ((s.size : Int) ≤ 12) = decide (s.size ≤ 12) := by
        by_cases h : s.size ≤ 12
        · rw [decide_eq_true h, decide_eq_true (by omega)]
        · rw [decide_eq_false h, decide_eq_false (by omega)]
      simp (disch := as_aux_lemma => first | omega | simp only [hDs] <;> omega | simp [isCell]) [hRs, takeMarks, resA, resAll, resOne, Value.cells, goInt, e]
      simpa using this
    · have c1' : strEq s ⟨⟨[]⟩⟩ = true := by rw [strEq_empty, decide_eq_false c1]; rfl
      simp (disch := as_aux_lemma => first | omega | simp only [hDs] <;> omega | simp [isCell]) [hRs, takeMarks, resA, resAll, resOne, Value.cells, t0, strOpA, strA, c1']
      have : V (.bool (nameB s)) _ := hV _ eX
      rw [hn, decide_eq_false c1] at this
      exact this
def ch2 (b : Int) : Bool := (decide (97 ≤ b) && decide (b ≤ 122)) || (decide (b = 95) || (decide (48 ≤ b) && decide (b ≤ 57)))
theorem loop170 {s : ByteArray} (hs : s.size < 1000000) (hret : ∀ T' i, i < s.size → ch2 (sB s i) = false → tget T' 2 = .bool false → Q .ret ⟨T', D, A⟩) (hend : ∀ T', (∀ i, i < s.size → ch2 (sB s i) = true) → Q (.exit 0) ⟨T', D, A⟩) :
    ∀ (k i : Nat) {T1 : List Value}, i + k = s.size → (∀ j, j < i → ch2 (sB s j) = true) → tget T1 0 = .string s → tget T1 3 = .int .i64 i → W AP KL g rd (.loop body170) ⟨T1, D, A⟩ Q := by
  intro k
  induction k with
  | zero =>
    intro i T1 hik hok t0 t3
    have : i = s.size := by omega
    subst this
    rw [W_loop]
    simp (disch := as_aux_lemma => first | omega | simp only [hDs] <;> omega | simp [isCell]) [hRs, takeMarks, resA, resAll, resOne, Value.cells, body170, t0, t3, lenTV, goInt]
    exact hend _ hok
  | succ k ih =>
    intro i T1 hik hok t0 t3
    obtain ⟨n, hn⟩ : ∃ n, n = s.size := ⟨_, rfl⟩
    have hlen : lenTV (.string s) = some (.int .i64 n) := by rw [hn]; rfl
    have hat := str_at (s := s) (i := i) (by omega)
    obtain ⟨b, hbe⟩ : ∃ b, b = sB s i := ⟨_, rfl⟩
    rw [← hbe] at hat
    have bad : ch2 b = false → ∀ T', tget T' 2 = .bool false → Q .ret ⟨T', D, A⟩ := fun h T' t2 => hret _ i (by omega) (by rw [← hbe]; exact h) t2
    have hok' : ch2 b = true → ∀ j, j < i + 1 → ch2 (sB s j) = true := fun h j hj => by
      rcases Nat.lt_or_ge j i with h' | h'
      · exact hok j h'
      · have : j = i := by omega
        subst this; rw [← hbe]; exact h
    have e3 := wrId (n := (i : Int) + 1) (by omega) (by omega)
    rw [W_loop]
    by_cases c1 : b < 97
    · by_cases d3 : b < 48
      · by_cases d2 : b = 95
        · simp (disch := as_aux_lemma => first | omega | simp only [hDs] <;> omega | simp [isCell]) [hRs, takeMarks, resA, resAll, resOne, Value.cells, body170, t0, t3, hlen, hat, show ((i : Int) < n) by omega, e3, c1, d3, d2]
          exact ih (i + 1) (by omega) (hok' (by simp [ch2, show ¬ 97 ≤ b by omega, d2])) (by simp [t0]) (by simp)
        · simp (disch := as_aux_lemma => first | omega | simp only [hDs] <;> omega | simp [isCell]) [hRs, takeMarks, resA, resAll, resOne, Value.cells, body170, t0, t3, hlen, hat, show ((i : Int) < n) by omega, e3, c1, d3, d2]
          exact bad (by simp [ch2, show ¬ 97 ≤ b by omega, d2, show ¬ 48 ≤ b by omega]) _ (by simp)
      · by_cases d4 : 57 < b
        · by_cases d2 : b = 95
          · simp (disch := as_aux_lemma => first | omega | simp only [hDs] <;> omega | simp [isCell]) [hRs, takeMarks, resA, resAll, resOne, Value.cells, body170, t0, t3, hlen, hat, show ((i : Int) < n) by omega, e3, c1, d3, d4, d2]
            exact ih (i + 1) (by omega) (hok' (by simp [ch2, show ¬ 97 ≤ b by omega, d2])) (by simp [t0]) (by simp)
          · simp (disch := as_aux_lemma => first | omega | simp only [hDs] <;> omega | simp [isCell]) [hRs, takeMarks, resA, resAll, resOne, Value.cells, body170, t0, t3, hlen, hat, show ((i : Int) < n) by omega, e3, c1, d3, d4, d2]
            exact bad (by simp [ch2, show ¬ 97 ≤ b by omega, d2, show ¬ b ≤ 57 by omega]) _ (by simp)
        · simp (disch := as_aux_lemma => first | omega | simp only [hDs] <;> omega | simp [isCell]) [hRs, takeMarks, resA, resAll, resOne, Value.cells, body170, t0, t3, hlen, hat, show ((i : Int) < n) by omega, e3, c1, d3, d4]
          exact ih (i + 1) (by omega) (hok' (by simp [ch2, show ¬ 97 ≤ b by omega, show 48 ≤ b by omega, show b ≤ 57 by omega])) (by simp [t0]) (by simp)
    · by_cases c2 : 122 < b
      · by_cases d3 : b < 48
        · by_cases d2 : b = 95
          · simp (disch := as_aux_lemma => first | omega | simp only [hDs] <;> omega | simp [isCell]) [hRs, takeMarks, resA, resAll, resOne, Value.cells, body170, t0, t3, hlen, hat, show ((i : Int) < n) by omega, e3, c1, c2, d3, d2]
            exact ih (i + 1) (by omega) (hok' (by simp [ch2, show ¬ b ≤ 122 by omega, d2])) (by simp [t0]) (by simp)
          · simp (disch := as_aux_lemma => first | omega | simp only [hDs] <;> omega | simp [isCell]) [hRs, takeMarks, resA, resAll, resOne, Value.cells, body170, t0, t3, hlen, hat, show ((i : Int) < n) by omega, e3, c1, c2, d3, d2]
            exact bad (by simp [ch2, show ¬ b ≤ 122 by omega, d2, show ¬ 48 ≤ b by omega]) _ (by simp)
        · by_cases d4 : 57 < b
          · by_cases d2 : b = 95
            · simp (disch := as_aux_lemma => first | omega | simp only [hDs] <;> omega | simp [isCell]) [hRs, takeMarks, resA, resAll, resOne, Value.cells, body170, t0, t3, hlen, hat, show ((i : Int) < n) by omega, e3, c1, c2, d3, d4, d2]
              exact ih (i + 1) (by omega) (hok' (by simp [ch2, show ¬ b ≤ 122 by omega, d2])) (by simp [t0]) (by simp)
            · simp (disch := as_aux_lemma => first | omega | simp only [hDs] <;> omega | simp [isCell]) [hRs, takeMarks, resA, resAll, resOne, Value.cells, body170, t0, t3, hlen, hat, show ((i : Int) < n) by omega, e3, c1, c2, d3, d4, d2]
              exact bad (by simp [ch2, show ¬ b ≤ 122 by omega, d2, show ¬ b ≤ 57 by omega]) _ (by simp)
          · simp (disch := as_aux_lemma => first | omega | simp only [hDs] <;> omega | simp [isCell]) [hRs, takeMarks, resA, resAll, resOne, Value.cells, body170, t0, t3, hlen, hat, show ((i : Int) < n) by omega, e3, c1, c2, d3, d4]
            exact ih (i + 1) (by omega) (hok' (by simp [ch2, show ¬ b ≤ 122 by omega, show 48 ≤ b by omega, show b ≤ 57 by omega])) (by simp [t0]) (by simp)
      · simp (disch := as_aux_lemma => first | omega | simp only [hDs] <;> omega | simp [isCell]) [hRs, takeMarks, resA, resAll, resOne, Value.cells, body170, t0, t3, hlen, hat, show ((i : Int) < n) by omega, e3, c1, c2]
        exact ih (i + 1) (by omega) (hok' (by simp [ch2, show 97 ≤ b by omega, show b ≤ 122 by omega])) (by simp [t0]) (by simp)
theorem chB_pos {i : Nat} {b : Int} (h : i ≠ 0) : chB i b = ch2 b := by simp [chB, ch2, h]
theorem chB_zero {b : Int} : chB 0 b = (decide (97 ≤ b) && decide (b ≤ 122)) := by simp [chB]
theorem w170 {s : ByteArray} (hs : s.size < 1000000) (hV : V (.bool (nameB s)) A) : WF AP KL g 170 [.string s] A V := by
  rw [WF_body (show KL 170 = none from rfl) (show AP 170 = some F170 from rfl)]
  have hlen : lenTV (.string s) = some (.int .i64 s.size) := rfl
  obtain ⟨n, hn⟩ : ∃ n, n = s.size := ⟨_, rfl⟩
  rw [← hn] at hlen
  by_cases c1 : (n : Int) < 1
  · have : nameB s = false := by simp [nameB, show ¬ 1 ≤ s.size by omega]
    simp (disch := as_aux_lemma => first | omega | simp only [hDs] <;> omega | simp [isCell]) [hRs, takeMarks, resA, resAll, resOne, Value.cells, F170, hlen, c1]
    rw [← this]; exact hV
  · by_cases c2 : 12 < (n : Int)
    · have : nameB s = false := by simp [nameB, show ¬ s.size ≤ 12 by omega]
      simp (disch := as_aux_lemma => first | omega | simp only [hDs] <;> omega | simp [isCell]) [hRs, takeMarks, resA, resAll, resOne, Value.cells, F170, hlen, c1, c2]
      rw [← this]; exact hV
    · have hat := str_at (s := s) (i := 0) (by omega)
      by_cases c3 : sB s 0 < 97
      · have : nameB s = false := nameB_bad (i := 0) (by omega) (by rw [chB_zero]; simp; omega)
        simp (disch := as_aux_lemma => first | omega | simp only [hDs] <;> omega | simp [isCell]) [hRs, takeMarks, resA, resAll, resOne, Value.cells, F170, hlen, c1, c2, show strIdxA (.string s) (.int .i64 0) = some (.int .u8 (sB s 0)) from hat, c3]
        rw [← this]; exact hV
      · by_cases c4 : 122 < sB s 0
        · have : nameB s = false := nameB_bad (i := 0) (by omega) (by rw [chB_zero]; simp; omega)
          simp (disch := as_aux_lemma => first | omega | simp only [hDs] <;> omega | simp [isCell]) [hRs, takeMarks, resA, resAll, resOne, Value.cells, F170, hlen, c1, c2, show strIdxA (.string s) (.int .i64 0) = some (.int .u8 (sB s 0)) from hat, c3, c4]
          rw [← this]; exact hV
        · simp (disch := as_aux_lemma => first | omega | simp only [hDs] <;> omega | simp [isCell]) [hRs, takeMarks, resA, resAll, resOne, Value.cells, F170, hlen, c1, c2, show strIdxA (.string s) (.int .i64 0) = some (.int .u8 (sB s 0)) from hat, c3, c4]
          have h0 : chB 0 (sB s 0) = true := by rw [chB_zero]; simp; omega
          refine loop170 hs ?_ ?_ s.size 0 (by omega) (fun j hj => absurd hj (by omega)) (by simp) (by simp)
          · intro T' i hi hb t2
            have hi0 : i ≠ 0 := fun h => by
              subst h
              have : ch2 (sB s 0) = true := by simp [ch2]; omega
              rw [hb] at this; cases this
            have : nameB s = false := nameB_bad hi (by rw [chB_pos hi0]; exact hb)
            simp (disch := as_aux_lemma => first | omega | simp only [hDs] <;> omega | simp [isCell]) [hRs, takeMarks, resA, resAll, resOne, Value.cells, t2]
            rw [← this]; exact hV
          · intro T' hall
            have : nameB s = true := by
              rw [nameB_all fun i hi => ?_]
              · simp; omega
              · by_cases hi0 : i = 0
                · subst hi0; exact h0
                · rw [chB_pos hi0]; exact hall i hi
            simp (disch := as_aux_lemma => first | omega | simp only [hDs] <;> omega | simp [isCell]) [hRs, takeMarks, resA, resAll, resOne, Value.cells]
            rw [← this]; exact hV
end
end Go.Ab.Dike
namespace Go.Ab.Dike
open Go Go.Ab
structure StepT where
  name : ByteArray
  an : Nat
  al : List Int
  tl : Int
  th : Int
  calm : Bool
  clear : Bool
  logs : Int
def stepC (a : Value) (s : StepT) : List Value := [.string s.name, a, .int .i64 s.tl, .int .i64 s.th, .bool s.calm, .bool s.clear, .int .i64 s.logs]
def StepAt (A : Hp) (cells : List Value) (i : Nat) (s : StepT) : Prop :=
  ∃ a, partA cells (i * 7) (some 7) = some (.agg ⟨stepC a s⟩) ∧ cellAt cells (i * 7) = some (.string s.name) ∧ cellAt cells (i * 7 + 1) = some a ∧ partA cells (i * 7 + 2) (some 2) = some (.agg ⟨[.int .i64 s.tl, .int .i64 s.th]⟩) ∧
    cellAt cells (i * 7 + 2) = some (.int .i64 s.tl) ∧ cellAt cells (i * 7 + 3) = some (.int .i64 s.th) ∧ cellAt cells (i * 7 + 4) = some (.bool s.calm) ∧ cellAt cells (i * 7 + 5) = some (.bool s.clear) ∧ cellAt cells (i * 7 + 6) = some (.int .i64 s.logs) ∧ RdS A 1 s.an (ints s.al) a
def Steps (A : Hp) (n : Nat) (S : Nat → StepT) (sl : Value) : Prop := ∃ cells, RdS A 7 n cells sl ∧ ∀ i, i < n → StepAt A cells i (S i)
theorem StepAt.mono {A A' : Hp} {cells : List Value} {i : Nat} {f : StepT} (h : StepAt A cells i f) (hA : ∀ z, z < A.n → A'.get z = A.get z) : StepAt A' cells i f := by
  obtain ⟨a, h1, h2, h3, h4, h5, h6, h7, h8, h9, h10⟩ := h
  exact ⟨a, h1, h2, h3, h4, h5, h6, h7, h8, h9, h10.mono hA⟩
theorem Steps.mono {A A' : Hp} {n : Nat} {F : Nat → StepT} {sl : Value} (h : Steps A n F sl) (hA : ∀ z, z < A.n → A'.get z = A.get z) : Steps A' n F sl := by
  obtain ⟨cells, h1, h2⟩ := h
  exact ⟨cells, h1.mono hA, fun i hi => (h2 i hi).mono hA⟩
theorem Steps.ext {A A' : Hp} {n : Nat} {F : Nat → StepT} {sl : Value} (h : Steps A n F sl) (he : Ext' A A') : Steps A' n F sl := h.mono he.2
theorem Steps.len {A : Hp} {n : Nat} {F : Nat → StepT} {sl : Value} (h : Steps A n F sl) : lenV sl = some (.int .i64 n) := by obtain ⟨_, h1, _⟩ := h; exact h1.len
theorem Steps.at {A : Hp} {n i : Nat} {F : Nat → StepT} {sl : Value} (h : Steps A n F sl) (hi : i < n) : ∃ x c ro cells, sl = .slice (some ⟨x, 0, some 7⟩) n c ∧ A.get x = some (.cells cells ro) ∧ cells.length = n * 7 ∧ ∀ j, j < n → StepAt A cells j (F j) := by
  obtain ⟨cells, h1, h2⟩ := h
  obtain ⟨x, c, ro, h3, h4⟩ := h1.at hi
  exact ⟨x, c, ro, cells, h3, h4, h1.1, h2⟩
def aftE (i : Nat) (al : List Int) (k : Nat) : Int := if gi al k < 0 ∨ (i : Int) ≤ gi al k then 4 else if gi al k ∈ al.take k then 2 else 0
def sameN (S : Nat → StepT) (i : Nat) : Bool := (List.range i).any fun k => strEq (S k).name (S i).name
def lastE (s : StepT) : Int := if validB s.tl s.th 0 100000000 = false ∨ s.logs < 0 ∨ 100 < s.logs then 3 else 0
def stpE (S : Nat → StepT) (i : Nat) : Int := if nameB (S i).name = false then 10 else if sameN S i = true then 5 else if firstE (aftE i (S i).al) (S i).an ≠ 0 then firstE (aftE i (S i).al) (S i).an else lastE (S i)
def stepsE (n : Nat) (S : Nat → StepT) : Int := if 32 < n then 9 else firstE (stpE S) n
theorem stpE_a {S : Nat → StepT} {i : Nat} (h : nameB (S i).name = false) : stpE S i = 10 := if_pos h
theorem stpE_b {S : Nat → StepT} {i : Nat} (h : nameB (S i).name = true) (h2 : sameN S i = true) : stpE S i = 5 := by rw [stpE, h, if_neg (by decide), if_pos h2]
theorem stpE_c {S : Nat → StepT} {i : Nat} {e : Int} (h : nameB (S i).name = true) (h2 : sameN S i = false) (h3 : firstE (aftE i (S i).al) (S i).an = e) (he : e ≠ 0) : stpE S i = e := by rw [stpE, h, if_neg (by decide), h2, if_neg (by decide), h3, if_pos he]
theorem stpE_d {S : Nat → StepT} {i : Nat} (h : nameB (S i).name = true) (h2 : sameN S i = false) (h3 : firstE (aftE i (S i).al) (S i).an = 0) : stpE S i = lastE (S i) := by rw [stpE, h, if_neg (by decide), h2, if_neg (by decide), h3, if_neg (by decide)]
section
variable {g : Nat} {rd : Option Nat} {T : List Value} {D : List Nat} {A : Hp} {Q : Ex → St → Prop} {V : Value → Hp → Prop}
theorem mem_take_succ {l : List Int} {i : Nat} {v : Int} (hi : i < l.length) : v ∈ l.take (i + 1) ↔ v ∈ l.take i ∨ v = gi l i := by
  rw [List.take_add_one, List.getElem?_eq_getElem hi, gi_eq hi]
  simp only [Option.toList, List.mem_append, List.mem_singleton]
theorem loop199 {n : Nat} {sl : Value} {al : List Int} {v : Int} (hsl : RdP A 1 n (ints al) sl) (hn : n < 1000000)
    (hin : ∀ T' (i : Nat), v ∈ al.take n → tget T' 4 = .int .i64 i → Q .ret ⟨T', D, A⟩) (hout : ∀ T', v ∉ al.take n → Q (.exit 0) ⟨T', D, A⟩) :
    ∀ (k i : Nat) {T : List Value}, i + k = n → v ∉ al.take i → tget T 0 = sl → tget T 1 = .int .i64 v → tget T 7 = .int .i64 n → tget T 8 = .int .i64 i → W AP KL g rd (.loop body199) ⟨T, D, A⟩ Q := by
  have hl := hsl.1
  rw [ints_length, Nat.mul_one] at hl
  intro k
  induction k with
  | zero =>
    intro i T hik hno h0 h1 h7 h8
    have : i = n := by omega
    subst this
    rw [W_loop]
    simp (disch := as_aux_lemma => first | omega | simp only [hDs] <;> omega | simp [isCell]) [hRs, takeMarks, resA, resAll, resOne, Value.cells, body199, h7, h8]
    exact hout _ hno
  | succ k ih =>
    intro i T hik hno h0 h1 h7 h8
    obtain ⟨x, c, ro, rfl, hx⟩ := hsl.at (i := i) (by omega)
    rw [W_loop]
    by_cases hv : v = gi al i
    · simp (disch := as_aux_lemma => first | omega | simp only [hDs] <;> omega | simp [isCell]) [hRs, takeMarks, resA, resAll, resOne, Value.cells, body199, h7, h8, h0, h1, show ((i : Int) < n) by omega, idxSA_ok, hx, ints_get, hv]
      refine hin _ i ?_ (by simp)
      have := (mem_take_succ (show i < al.length by omega)).2 (.inr hv)
      exact List.mem_of_mem_take (i := i + 1) (by rw [List.take_take, Nat.min_eq_left (by omega)]; exact this)
    · simp (disch := as_aux_lemma => first | omega | simp only [hDs] <;> omega | simp [isCell]) [hRs, takeMarks, resA, resAll, resOne, Value.cells, body199, h7, h8, h0, h1, show ((i : Int) < n) by omega, idxSA_ok, hx, ints_get, hv]
      exact ih (i + 1) (by omega) (fun h => ((mem_take_succ (show i < al.length by omega)).1 h).elim hno hv) (by simp [h0]) (by simp [h1]) (by simp [h7]) (by simp [wrId (n := (i : Int) + 1) (by omega) (by omega)])
theorem w169 {n : Nat} {sl : Value} {al : List Int} {v : Int} (hsl : RdP A 1 n (ints al) sl) (hn : n < 1000000) (hV : V (.bool (decide (v ∈ al.take n))) A) : WF AP KL g 169 [sl, .int .i64 v] A V := by
  rw [WF_body (show KL 169 = none from rfl) (show AP 169 = some F169 from rfl)]
  simp (disch := as_aux_lemma => first | omega | simp only [hDs] <;> omega | simp [isCell]) [hRs, takeMarks, resA, resAll, resOne, Value.cells, F169]
  rw [WF_body (show KL 199 = none from rfl) (show AP 199 = some F199 from rfl)]
  simp (disch := as_aux_lemma => first | omega | simp only [hDs] <;> omega | simp [isCell]) [hRs, takeMarks, resA, resAll, resOne, Value.cells, F199, hsl.len]
  refine loop199 (v := v) (al := al) hsl hn ?_ ?_ n 0 (by omega) (by simp) (by simp) (by simp) (by simp) (by simp)
  · intro T' i hm h4
    simp (disch := as_aux_lemma => first | omega | simp only [hDs] <;> omega | simp [isCell]) [hRs, takeMarks, resA, resAll, resOne, Value.cells, h4]
    rw [decide_eq_true hm] at hV; exact hV
  · intro T' hm
    simp (disch := as_aux_lemma => first | omega | simp only [hDs] <;> omega | simp [isCell]) [hRs, takeMarks, resA, resAll, resOne, Value.cells]
    rw [decide_eq_false hm] at hV; exact hV
theorem loop171 {n : Nat} {sl : Value} {al : List Int} {v : Int} (hsl : RdP A 1 n (ints al) sl) (hn : n < 1000000)
    (hin : ∀ T', v ∈ al.take n → tget T' 4 = .bool true → Q .ret ⟨T', D, A⟩) (hout : ∀ T', v ∉ al.take n → Q (.exit 0) ⟨T', D, A⟩) :
    ∀ (k i : Nat) {T : List Value}, i + k = n → v ∉ al.take i → tget T 0 = sl → tget T 1 = .int .i64 v → tget T 5 = .int .i64 i → W AP KL g rd (.loop body171) ⟨T, D, A⟩ Q := by
  have hl := hsl.1
  rw [ints_length, Nat.mul_one] at hl
  intro k
  induction k with
  | zero =>
    intro i T hik hno h0 h1 h5
    have : i = n := by omega
    subst this
    rw [W_loop]
    simp (disch := as_aux_lemma => first | omega | simp only [hDs] <;> omega | simp [isCell]) [hRs, takeMarks, resA, resAll, resOne, Value.cells, body171, h0, h5, hsl.len]
    exact hout _ hno
  | succ k ih =>
    intro i T hik hno h0 h1 h5
    have hlen := hsl.len
    obtain ⟨x, c, ro, rfl, hx⟩ := hsl.at (i := i) (by omega)
    rw [W_loop]
    by_cases hv : gi al i = v
    · simp (disch := as_aux_lemma => first | omega | simp only [hDs] <;> omega | simp [isCell]) [hRs, takeMarks, resA, resAll, resOne, Value.cells, body171, h5, h0, h1, hlen, show ((i : Int) < n) by omega, idxSA_ok, hx, ints_get, hv]
      refine hin _ ?_ (by simp)
      have := (mem_take_succ (show i < al.length by omega)).2 (.inr hv.symm)
      exact List.mem_of_mem_take (i := i + 1) (by rw [List.take_take, Nat.min_eq_left (by omega)]; exact this)
    · simp (disch := as_aux_lemma => first | omega | simp only [hDs] <;> omega | simp [isCell]) [hRs, takeMarks, resA, resAll, resOne, Value.cells, body171, h5, h0, h1, hlen, show ((i : Int) < n) by omega, idxSA_ok, hx, ints_get, hv]
      exact ih (i + 1) (by omega) (fun h => ((mem_take_succ (show i < al.length by omega)).1 h).elim hno fun h => hv h.symm) (by simp [h0]) (by simp [h1]) (by simp [wrId (n := (i : Int) + 1) (by omega) (by omega)])
theorem w171 {n : Nat} {sl : Value} {al : List Int} {v : Int} (hsl : RdP A 1 n (ints al) sl) (hn : n < 1000000) (hV : V (.bool (decide (v ∈ al.take n))) A) : WF AP KL g 171 [sl, .int .i64 v] A V := by
  rw [WF_body (show KL 171 = none from rfl) (show AP 171 = some F171 from rfl)]
  simp (disch := as_aux_lemma => first | omega | simp only [hDs] <;> omega | simp [isCell]) [hRs, takeMarks, resA, resAll, resOne, Value.cells, F171]
  refine loop171 (v := v) (al := al) hsl hn ?_ ?_ n 0 (by omega) (by simp) (by simp) (by simp) (by simp)
  · intro T' hm h4
    simp (disch := as_aux_lemma => first | omega | simp only [hDs] <;> omega | simp [isCell]) [hRs, takeMarks, resA, resAll, resOne, Value.cells, h4]
    rw [decide_eq_true hm] at hV; exact hV
  · intro T' hm
    simp (disch := as_aux_lemma => first | omega | simp only [hDs] <;> omega | simp [isCell]) [hRs, takeMarks, resA, resAll, resOne, Value.cells]
    rw [decide_eq_false hm] at hV; exact hV
theorem says168 {A0 : Hp} {X4 i n : Nat} {cells : List Value} {S : Nat → StepT} {a : Value} {s : StepT} (hX : A0.get X4 = some (.cells (stepC a s) false)) (hin : i ≤ n) (hS : ∀ j, j < n → StepAt A0 cells j (S j)) :
    Says g A0 (.func (.func 168) ⟨[]⟩ ⟨[.pointer (some ⟨X4, 0, none⟩)]⟩) i (fun k => (partA cells (k * 7) (some 7)).getD undef) (fun k => strEq (S k).name s.name) := by
  intro k hk A V he hV
  obtain ⟨b, h1, _⟩ := hS k (by omega)
  have hX' := he.get hX
  have hXn := Hp.lt_of_get hX'
  show WV AP KL g _ [(partA cells (k * 7) (some 7)).getD undef] A V
  rw [h1]
  simp (disch := as_aux_lemma => first | omega | simp only [hDs] <;> omega | simp [isCell]) [hRs, takeMarks, resA, resAll, resOne, Value.cells, stepC]
  rw [WF_body (show KL 168 = none from rfl) (show AP 168 = some F168 from rfl)]
  unfold stepC at hX'
  simp (disch := as_aux_lemma => first | omega | simp only [hDs] <;> omega | simp [isCell]) [hRs, takeMarks, resA, resAll, resOne, Value.cells, F168, hX', strOpA, strA]
  exact hV _ (Ext'.push A _)
end
end Go.Ab.Dike
namespace Go.Ab.Dike
open Go Go.Ab
def body135 : ACode := (.seq
 (.ops [
oB 13 .lss 12 11])
 (.seq
 (.cond (.t 13)
 .skip
 (.exit 0))
 (.seq
 (.block 1
 (.seq
 (.ops [
oM 14 12,
oI 15 10 12 7,
oD 16 15 7,
⟨some 4, none, [], .alloc [.string ⟨⟨[]⟩⟩, .slice none 0 0, .int .i64 0, .int .i64 0, .bool false, .bool false, .int .i64 0]⟩,
oM 3 14,
oT 4 16 7])
 (.seq
 (.block 2
 (.seq
 (.ops [
oF 18 4 0,
oL 19 18,
oA 20 166 [.t 19] false,
oP 21 (.not (.t 20)),
oM 17 21])
 (.cond (.t 17)
 (.seq
 (.ops [
oP 2 (.move (oK 10))])
 .ret)
 (.seq
 (.ops [
oM 23 0,
oM 24 3,
oP 25 (.reslice (.t 23) none (some (.t 24)) 7),
oP 26 (.makeFunc 168 [] [.t 4]),
oA 27 167 [.t 25, .t 26] false,
oM 22 27])
 (.cond (.t 22)
 (.seq
 (.ops [
oP 2 (.move (oK 5))])
 .ret)
 .skip)))))
 (.seq
 (.seq
 (.ops [
oF 28 4 1,
oL 29 28,
oP 30 (.len (.t 29)),
oP 31 (.move (oK 0))])
 (.block 3
 (.loop
 (.seq
 (.ops [
oB 32 .lss 31 30])
 (.seq
 (.cond (.t 32)
 .skip
 (.exit 3))
 (.seq
 (.block 4
 (.seq
 (.ops [
oM 33 31,
oI 34 29 31 1,
oL 35 34,
oM 5 33,
oM 6 35])
 (.block 5
 (.seq
 (.ops [
oM 37 6,
oC 38 .lss 37 0,
oM 39 38,
oN 40 39 false 6,
oN 41 39 false 3,
oQ 42 39 false (.bin .geq (.t 40) (.t 41)),
oP 43 (.pick (.t 39) (.k (.bool true)) (.t 42)),
oM 36 43])
 (.cond (.t 36)
 (.seq
 (.ops [
oP 2 (.move (oK 4))])
 .ret)
 (.seq
 (.ops [
oF 45 4 1,
oL 46 45,
oM 47 5,
oP 48 (.reslice (.t 46) none (some (.t 47)) 1),
oM 49 6,
oA 50 169 [.t 48, .t 49] false,
oM 44 50])
 (.cond (.t 44)
 (.seq
 (.ops [
oP 2 (.move (oK 2))])
 .ret)
 .skip)))))))
 (.ops [
oC 51 .add 31 1,
oM 31 51])))))))
 (.seq
 (.ops [
oF 52 4 2,
oD 53 52 2,
oA 54 160 [.t 53, .k (.int .i64 0), .k (.int .i64 100000000)] false,
oP 55 (.not (.t 54)),
oM 56 55,
oQ 57 56 false (.fieldAddr (.t 4) 6),
oQ 58 56 false (.load (.t 57) none),
oQ 59 56 false (.bin .lss (.t 58) (oK 0)),
oP 60 (.pick (.t 56) (.k (.bool true)) (.t 59)),
oM 61 60,
oQ 62 61 false (.fieldAddr (.t 4) 6),
oQ 63 61 false (.load (.t 62) none),
oQ 64 61 false (.bin .gtr (.t 63) (oK 100)),
oP 65 (.pick (.t 61) (.k (.bool true)) (.t 64))])
 (.cond (.t 65)
 (.seq
 (.ops [
oP 2 (.move (oK 3))])
 .ret)
 .skip))))))
 (.ops [
oC 66 .add 12 1,
oM 12 66]))))
def body136 : ACode := (.seq
 (.seq
 (.ops [
oM 10 3,
oM 11 0,
oP 12 (.len (.t 11)),
oB 13 .lss 10 12])
 (.cond (.t 13)
 .skip
 (.exit 0)))
 (.seq
 (.block 1
 (.seq
 (.ops [
oM 16 0,
oM 17 3,
oI 18 16 17 7,
oD 19 18 7,
⟨some 4, none, [], .alloc [.string ⟨⟨[]⟩⟩, .slice none 0 0, .int .i64 0, .int .i64 0, .bool false, .bool false, .int .i64 0]⟩,
oT 4 19 7])
 (.seq
 (.seq
 (.ops [
oF 20 4 0,
oL 21 20,
oA 22 170 [.t 21] false,
oP 23 (.not (.t 22))])
 (.cond (.t 23)
 (.seq
 (.ops [
oP 2 (.move (oK 10))])
 .ret)
 .skip))
 (.seq
 (.seq
 (.ops [
oP 5 (.move (oK 0))])
 (.block 2
 (.loop
 (.seq
 (.seq
 (.ops [
oM 24 5,
oM 25 3,
oB 26 .lss 24 25])
 (.cond (.t 26)
 .skip
 (.exit 2)))
 (.seq
 (.block 3
 (.seq
 (.ops [
oM 29 0,
oM 30 5,
oI 31 29 30 7,
oF 32 31 0,
oL 33 32,
oF 34 4 0,
oL 35 34,
oP 36 (.strOp .eql (.t 33) (.t 35))])
 (.cond (.t 36)
 (.seq
 (.ops [
oP 2 (.move (oK 5))])
 .ret)
 .skip)))
 (.ops [
oM 27 5,
oC 28 .add 27 1,
oM 5 28]))))))
 (.seq
 (.seq
 (.ops [
oP 6 (.move (oK 0))])
 (.block 4
 (.loop
 (.seq
 (.seq
 (.ops [
oM 37 6,
oF 38 4 1,
oL 39 38,
oP 40 (.len (.t 39)),
oB 41 .lss 37 40])
 (.cond (.t 41)
 .skip
 (.exit 4)))
 (.seq
 (.block 5
 (.seq
 (.seq
 (.ops [
oF 44 4 1,
oL 45 44,
oM 46 6,
oI 47 45 46 1,
oL 48 47,
oC 49 .lss 48 0,
oM 50 49,
oQ 51 50 false (.fieldAddr (.t 4) 1),
oQ 52 50 false (.load (.t 51) none),
oN 53 50 false 6,
oQ 54 50 false (.idxS (.t 52) (.t 53) 1),
oQ 55 50 false (.load (.t 54) none),
oN 56 50 false 3,
oQ 57 50 false (.bin .geq (.t 55) (.t 56)),
oP 58 (.pick (.t 50) (.k (.bool true)) (.t 57))])
 (.cond (.t 58)
 (.seq
 (.ops [
oP 2 (.move (oK 4))])
 .ret)
 .skip))
 (.seq
 (.ops [
oF 59 4 1,
oL 60 59,
oM 61 6,
oP 62 (.reslice (.t 60) none (some (.t 61)) 1),
oF 63 4 1,
oL 64 63,
oM 65 6,
oI 66 64 65 1,
oL 67 66,
oA 68 171 [.t 62, .t 67] false])
 (.cond (.t 68)
 (.seq
 (.ops [
oP 2 (.move (oK 2))])
 .ret)
 .skip))))
 (.ops [
oM 42 6,
oC 43 .add 42 1,
oM 6 43]))))))
 (.seq
 (.ops [
oF 69 4 2,
oD 70 69 2,
oA 71 159 [.t 70, .k (.int .i64 0), .k (.int .i64 100000000)] false,
oP 72 (.not (.t 71)),
oM 73 72,
oQ 74 73 false (.fieldAddr (.t 4) 6),
oQ 75 73 false (.load (.t 74) none),
oQ 76 73 false (.bin .lss (.t 75) (oK 0)),
oP 77 (.pick (.t 73) (.k (.bool true)) (.t 76)),
oM 78 77,
oQ 79 78 false (.fieldAddr (.t 4) 6),
oQ 80 78 false (.load (.t 79) none),
oQ 81 78 false (.bin .gtr (.t 80) (oK 100)),
oP 82 (.pick (.t 78) (.k (.bool true)) (.t 81))])
 (.cond (.t 82)
 (.seq
 (.ops [
oP 2 (.move (oK 3))])
 .ret)
 .skip)))))))
 (.ops [
oM 14 3,
oC 15 .add 14 1,
oM 3 15])))
theorem aftE_a {i : Nat} {al : List Int} {k : Nat} (h : gi al k < 0 ∨ (i : Int) ≤ gi al k) : aftE i al k = 4 := if_pos h
theorem aftE_b {i : Nat} {al : List Int} {k : Nat} (h : ¬ (gi al k < 0 ∨ (i : Int) ≤ gi al k)) (h2 : gi al k ∈ al.take k) : aftE i al k = 2 := by rw [aftE, if_neg h, if_pos h2]
theorem aftE_c {i : Nat} {al : List Int} {k : Nat} (h : ¬ (gi al k < 0 ∨ (i : Int) ≤ gi al k)) (h2 : gi al k ∉ al.take k) : aftE i al k = 0 := by rw [aftE, if_neg h, if_neg h2]
section
variable {g : Nat} {rd : Option Nat} {T : List Value} {D : List Nat} {A : Hp} {Q : Ex → St → Prop} {V : Value → Hp → Prop}
theorem loop135i {X4 i : Nat} {a : Value} {s : StepT} (ha : RdS A 1 s.an (ints s.al) a) (hX : A.get X4 = some (.cells (stepC a s) false)) (hn : s.an < 1000000)
    (herr : ∀ T' e, firstE (aftE i s.al) s.an = e → e ≠ 0 → tget T' 2 = .int .i64 e → Q .ret ⟨T', D, A⟩) (hend : ∀ T', firstE (aftE i s.al) s.an = 0 → KeepT [0, 3, 4, 10, 11, 12] T T' → Q (.exit 3) ⟨T', D, A⟩)
    (t3 : tget T 3 = .int .i64 i) (t4 : tget T 4 = .pointer (some ⟨X4, 0, none⟩)) :
    ∀ (k j : Nat) {T1 : List Value}, j + k = s.an → firstE (aftE i s.al) j = 0 → KeepT [0, 3, 4, 10, 11, 12] T T1 → tget T1 29 = a → tget T1 30 = .int .i64 s.an → tget T1 31 = .int .i64 j → W AP KL g rd (.loop body135i) ⟨T1, D, A⟩ Q := by
  have hl := ha.1
  rw [ints_length, Nat.mul_one] at hl
  intro k
  induction k with
  | zero =>
    intro j T1 hik hok hk t29 t30 t31
    have : j = s.an := by omega
    subst this
    rw [W_loop]
    simp (disch := as_aux_lemma => first | omega | simp only [hDs] <;> omega | simp [isCell]) [hRs, takeMarks, resA, resAll, resOne, Value.cells, body135i, t30, t31]
    exact hend _ hok (hk.trans (by simp))
  | succ k ih =>
    intro j T1 hik hok hk t29 t30 t31
    have u3 := (hk.at 3 rfl).trans t3
    have u4 := (hk.at 4 rfl).trans t4
    obtain ⟨y, c, ro, rfl, hy⟩ := ha.at (i := j) (by omega)
    have hX' := hX
    unfold stepC at hX'
    obtain ⟨v, hv⟩ : ∃ v, v = gi s.al j := ⟨_, rfl⟩
    have hyv : cellAt (ints s.al) j = some (.int .i64 v) := by rw [hv]; exact ints_get (by omega)
    have hlt : (j : Int) < s.an := by omega
    obtain ⟨n, hne⟩ : ∃ n, n = s.an := ⟨_, rfl⟩
    rw [← hne] at t29 t30 hX' hlt
    rw [W_loop]
    by_cases c1 : v < 0
    · simp (disch := as_aux_lemma => first | omega | simp only [hDs] <;> omega | simp [isCell]) [hRs, takeMarks, resA, resAll, resOne, Value.cells, body135i, u3, u4, t29, t30, t31, hlt, idxSA_ok, hy, hyv, c1]
      exact herr _ 4 (firstE_at hok (by omega) (aftE_a (.inl (by rw [← hv]; exact c1))) (by decide)) (by decide) (by simp)
    · by_cases c2 : (i : Int) ≤ v
      · simp (disch := as_aux_lemma => first | omega | simp only [hDs] <;> omega | simp [isCell]) [hRs, takeMarks, resA, resAll, resOne, Value.cells, body135i, u3, u4, t29, t30, t31, hlt, idxSA_ok, hy, hyv, c1, c2]
        exact herr _ 4 (firstE_at hok (by omega) (aftE_a (.inr (by rw [← hv]; exact c2))) (by decide)) (by decide) (by simp)
      · have hno : ¬ (gi s.al j < 0 ∨ (i : Int) ≤ gi s.al j) := by rw [← hv]; omega
        simp (disch := as_aux_lemma => first | omega | simp only [hDs] <;> omega | simp [isCell]) [hRs, takeMarks, resA, resAll, resOne, Value.cells, body135i, u3, u4, t29, t30, t31, hlt, idxSA_ok, hy, hyv, c1, c2, hX', intOfA, boundA, resl_some (show j ≤ n by omega)]
        refine w169 (n := j) (al := s.al) ⟨by rw [ints_length]; omega, .inr ⟨y, _, ro, rfl, hy⟩⟩ (by omega) ?_
        by_cases c3 : v ∈ s.al.take j
        · simp (disch := as_aux_lemma => first | omega | simp only [hDs] <;> omega | simp [isCell]) [hRs, takeMarks, resA, resAll, resOne, Value.cells, c3]
          exact herr _ 2 (firstE_at hok (by omega) (aftE_b hno (by rw [← hv]; exact c3)) (by decide)) (by decide) (by simp)
        · simp (disch := as_aux_lemma => first | omega | simp only [hDs] <;> omega | simp [isCell]) [hRs, takeMarks, resA, resAll, resOne, Value.cells, c3, t31]
          exact ih (j + 1) (by omega) (firstE_next hok (aftE_c hno (by rw [← hv]; exact c3))) (hk.trans (by simp)) (by simp [t29, hne]) (by simp [t30, hne]) (by simp [wrId (n := (j : Int) + 1) (by omega) (by omega)])
theorem loop135 {A0 : Hp} {n : Nat} {S : Nat → StepT} {sl : Value} (hsl : Steps A0 n S sl) (hn : n ≤ 32) (hS : ∀ i, i < n → (S i).name.size < 1000000 ∧ (S i).an < 1000000) (hg : g ≤ A0.n)
    (herr : ∀ T' A' e, firstE (stpE S) n = e → e ≠ 0 → Ext' A0 A' → tget T' 2 = .int .i64 e → Q .ret ⟨T', D, A'⟩) (hend : ∀ T' A', firstE (stpE S) n = 0 → Ext' A0 A' → Q (.exit 0) ⟨T', D, A'⟩) :
    ∀ (k i : Nat) {T1 : List Value} {A : Hp}, i + k = n → firstE (stpE S) i = 0 → Ext' A0 A → tget T1 0 = sl → tget T1 10 = sl → tget T1 11 = .int .i64 n → tget T1 12 = .int .i64 i → W AP KL g rd (.loop body135) ⟨T1, D, A⟩ Q := by
  intro k
  induction k with
  | zero =>
    intro i T1 A hik hok he t0 t10 t11 t12
    have : i = n := by omega
    subst this
    rw [W_loop]
    simp (disch := as_aux_lemma => first | omega | simp only [hDs] <;> omega | simp [isCell]) [hRs, takeMarks, resA, resAll, resOne, Value.cells, body135, t11, t12]
    exact hend _ A hok he
  | succ k ih =>
    intro i T1 A hik hok he t0 t10 t11 t12
    obtain ⟨x, c, ro, cells, rfl, hx, hcl, hat⟩ := (hsl.ext he).at (i := i) (by omega)
    obtain ⟨a, p1, p2, p3, p4, p5, p6, p7, p8, p9, ra⟩ := hat i (by omega)
    have hgA := Nat.le_trans hg he.1
    obtain ⟨s, hs⟩ : ∃ s, s = S i := ⟨_, rfl⟩
    have hSi := hS i (by omega)
    rw [← hs] at p1 ra hSi
    have eP := Ext'.push A (.cells (stepC a s) false)
    obtain ⟨B, hB⟩ : ∃ B, B = A.push (.cells (stepC a s) false) := ⟨_, rfl⟩
    rw [← hB] at eP
    have hBn : B.n = A.n + 1 := by rw [hB]; rfl
    have hX : B.get A.n = some (.cells (stepC a s) false) := by rw [hB, get_push_new]
    have hB' : A.push (.cells [.string s.name, a, .int .i64 s.tl, .int .i64 s.th, .bool s.calm, .bool s.clear, .int .i64 s.logs] false) = B := hB.symm
    have hX' : B.get A.n = some (.cells [.string s.name, a, .int .i64 s.tl, .int .i64 s.th, .bool s.calm, .bool s.clear, .int .i64 s.logs] false) := hX
    obtain ⟨pa, na, rfl⟩ := ra.isSlice
    have hxB := eP.get hx
    rw [W_loop]
    simp (disch := as_aux_lemma => first | omega | simp only [hDs] <;> omega | simp [isCell]) [hRs, takeMarks, resA, resAll, resOne, Value.cells, body135, t0, t10, t11, t12, show ((i : Int) < n) by omega, idxSA_ok, hx, p1, stepC, storeB_cells, setRange, set_push_eq, hB', hX']
    refine w166 hSi.1 fun A1 e1 => ?_
    have e01 := he.trans (eP.trans e1)
    have hX1 := e1.get hX
    have hX1' := e1.get hX'
    cases c1 : nameB s.name with
    | false =>
      simp (disch := as_aux_lemma => first | omega | simp only [hDs] <;> omega | simp [isCell]) [hRs, takeMarks, resA, resAll, resOne, Value.cells]
      exact herr _ _ 10 (firstE_at hok (by omega) (stpE_a (by rw [← hs]; exact c1)) (by decide)) (by decide) e01 (by simp)
    | true =>
      simp (disch := as_aux_lemma => first | omega | simp only [hDs] <;> omega | simp [isCell]) [hRs, takeMarks, resA, resAll, resOne, Value.cells, t0, intOfA, boundA, resl_some (show i ≤ n by omega)]
      refine w167 (row := cells) (p := fun k => strEq (S k).name s.name) ⟨by omega, .inr ⟨x, _, ro, rfl, e1.get hxB⟩⟩ (fun j hj => ?_) (says168 (n := n) (cells := cells) (S := S) hX1 (by omega) fun j hj => ((hat j hj).mono eP.2).mono e1.2) (by omega) fun A2 e2 => ?_
      · obtain ⟨b, h1, _⟩ := hat j (by omega)
        rw [h1]; rfl
      have hsame : (List.range i).any (fun k => strEq (S k).name s.name) = sameN S i := by rw [hs]; rfl
      have e02 := e01.trans e2
      have hX2 := e2.get hX1
      have hX2' := e2.get hX1'
      rw [hsame]
      cases c2 : sameN S i with
      | true =>
        simp (disch := as_aux_lemma => first | omega | simp only [hDs] <;> omega | simp [isCell]) [hRs, takeMarks, resA, resAll, resOne, Value.cells]
        exact herr _ _ 5 (firstE_at hok (by omega) (stpE_b (by rw [← hs]; exact c1) c2) (by decide)) (by decide) e02 (by simp)
      | false =>
        have ra2 := (eP.trans (e1.trans e2)).rdS ra
        simp (disch := as_aux_lemma => first | omega | simp only [hDs] <;> omega | simp [isCell]) [hRs, takeMarks, resA, resAll, resOne, Value.cells, hX2', ra2.len]
        refine loop135i (X4 := A.n) (i := i) (s := s) ra2 hX2 hSi.2 ?_ ?_ (T := _) ?_ ?_ s.an 0 (by omega) rfl (fun _ _ => rfl) (by simp) (by simp) (by simp)
        · intro T' e hee hne t2
          simp (disch := as_aux_lemma => first | omega | simp only [hDs] <;> omega | simp [isCell]) [hRs, takeMarks, resA, resAll, resOne, Value.cells]
          exact herr _ _ e (firstE_at hok (by omega) (stpE_c (by rw [← hs]; exact c1) c2 (by rw [← hs]; exact hee) hne) hne) hne e02 t2
        · intro T' hz hk
          have hlast : stpE S i = lastE s := by rw [hs]; exact stpE_d (by rw [← hs]; exact c1) c2 (by rw [← hs]; exact hz)
          have v0 := hk.at 0 rfl
          have v4 := hk.at 4 rfl
          have v10 := hk.at 10 rfl
          have v11 := hk.at 11 rfl
          have v12 := hk.at 12 rfl
          simp [t0, t10, t11, t12] at v0 v4 v10 v11 v12
          simp (disch := as_aux_lemma => first | omega | simp only [hDs] <;> omega | simp [isCell]) [hRs, takeMarks, resA, resAll, resOne, Value.cells, v4, hX2']
          refine w160 fun A3 n3 o3 => ?_
          have e3 : Ext' A2 A3 := ⟨by omega, o3⟩
          have hX3' := e3.get hX2'
          have bad : lastE s = 3 → ∀ T', tget T' 2 = .int .i64 3 → Q .ret ⟨T', D, A3⟩ := fun h T' t2 => herr _ _ 3 (firstE_at hok (by omega) (by rw [hlast, h]) (by decide)) (by decide) (e02.trans e3) t2
          cases c3 : validB s.tl s.th 0 100000000 with
          | false =>
            simp (disch := as_aux_lemma => first | omega | simp only [hDs] <;> omega | simp [isCell]) [hRs, takeMarks, resA, resAll, resOne, Value.cells]
            exact bad (by simp [lastE, c3]) _ (by simp)
          | true =>
            by_cases c4 : s.logs < 0
            · simp (disch := as_aux_lemma => first | omega | simp only [hDs] <;> omega | simp [isCell]) [hRs, takeMarks, resA, resAll, resOne, Value.cells, v4, hX3', c4]
              exact bad (by simp [lastE, c4]) _ (by simp)
            · by_cases c5 : 100 < s.logs
              · simp (disch := as_aux_lemma => first | omega | simp only [hDs] <;> omega | simp [isCell]) [hRs, takeMarks, resA, resAll, resOne, Value.cells, v4, hX3', c4, c5]
                exact bad (by simp [lastE, c5]) _ (by simp)
              · simp (disch := as_aux_lemma => first | omega | simp only [hDs] <;> omega | simp [isCell]) [hRs, takeMarks, resA, resAll, resOne, Value.cells, v4, hX3', v12, c4, c5]
                exact ih (i + 1) (by omega) (firstE_next hok (by rw [hlast]; simp [lastE, c3]; omega)) (e02.trans e3) (by simp [v0]) (by simp [v10]) (by simp [v11]) (by simp [wrId (n := (i : Int) + 1) (by omega) (by omega)])
        · simp
        · simp
theorem w135 {n : Nat} {S : Nat → StepT} {sl : Value} (hsl : Steps A n S sl) (hn : n < 1000000) (hS : ∀ i, i < n → (S i).name.size < 1000000 ∧ (S i).an < 1000000) (hg : g ≤ A.n) (hV : ∀ A', Ext' A A' → V (.int .i64 (stepsE n S)) A') : WF AP KL g 135 [sl] A V := by
  rw [WF_body (show KL 135 = none from rfl) (show AP 135 = some F135 from rfl)]
  by_cases c1 : (32 : Int) < n
  · have : stepsE n S = 9 := if_pos (by omega)
    simp (disch := as_aux_lemma => first | omega | simp only [hDs] <;> omega | simp [isCell]) [hRs, takeMarks, resA, resAll, resOne, Value.cells, F135, hsl.len, c1]
    rw [← this]; exact hV _ (Ext'.refl _)
  · have hE : stepsE n S = firstE (stpE S) n := if_neg (by omega)
    simp (disch := as_aux_lemma => first | omega | simp only [hDs] <;> omega | simp [isCell]) [hRs, takeMarks, resA, resAll, resOne, Value.cells, F135, hsl.len, c1]
    refine loop135 hsl (by omega) hS hg ?_ ?_ n 0 (by omega) rfl (Ext'.refl _) (by simp) (by simp) (by simp) (by simp)
    · intro T' A' e he hne ee t2
      simp (disch := as_aux_lemma => first | omega | simp only [hDs] <;> omega | simp [isCell]) [hRs, takeMarks, resA, resAll, resOne, Value.cells, t2]
      rw [← he, ← hE]; exact hV _ ee
    · intro T' A' he ee
      simp (disch := as_aux_lemma => first | omega | simp only [hDs] <;> omega | simp [isCell]) [hRs, takeMarks, resA, resAll, resOne, Value.cells]
      rw [← he, ← hE]; exact hV _ ee
end
end Go.Ab.Dike
namespace Go.Ab.Dike
open Go Go.Ab
section
variable {g : Nat} {rd : Option Nat} {T : List Value} {D : List Nat} {A : Hp} {Q : Ex → St → Prop} {V : Value → Hp → Prop}
theorem loop136n {X4 x n c i : Nat} {ro : Bool} {cells : List Value} {S : Nat → StepT} {a : Value} {s : StepT} (hx : A.get x = some (.cells cells ro)) (hat : ∀ j, j < n → StepAt A cells j (S j)) (hin : i < n) (hn : n ≤ 32) (hX : A.get X4 = some (.cells (stepC a s) false))
    (herr : ∀ T', (List.range i).any (fun k => strEq (S k).name s.name) = true → tget T' 2 = .int .i64 5 → Q .ret ⟨T', D, A⟩) (hend : ∀ T', (List.range i).any (fun k => strEq (S k).name s.name) = false → KeepT [0, 3, 4] T T' → Q (.exit 2) ⟨T', D, A⟩)
    (t0 : tget T 0 = .slice (some ⟨x, 0, some 7⟩) n c) (t3 : tget T 3 = .int .i64 i) (t4 : tget T 4 = .pointer (some ⟨X4, 0, none⟩)) :
    ∀ (k j : Nat) {T1 : List Value}, j + k = i → (∀ l, l < j → strEq (S l).name s.name = false) → KeepT [0, 3, 4] T T1 → tget T1 5 = .int .i64 j → W AP KL g rd (.loop body136n) ⟨T1, D, A⟩ Q := by
  unfold stepC at hX
  intro k
  induction k with
  | zero =>
    intro j T1 hik hno hk t5
    have : j = i := by omega
    subst this
    have u3 := (hk.at 3 rfl).trans t3
    rw [W_loop]
    simp (disch := as_aux_lemma => first | omega | simp only [hDs] <;> omega | simp [isCell]) [hRs, takeMarks, resA, resAll, resOne, Value.cells, body136n, u3, t5]
    refine hend _ ?_ (hk.trans (by simp))
    rw [Bool.eq_false_iff]
    intro h
    obtain ⟨l, hl, hb⟩ := List.any_eq_true.1 h
    rw [hno l (by simpa using hl)] at hb
    cases hb
  | succ k ih =>
    intro j T1 hik hno hk t5
    have u0 := (hk.at 0 rfl).trans t0
    have u3 := (hk.at 3 rfl).trans t3
    have u4 := (hk.at 4 rfl).trans t4
    obtain ⟨b, _, p2, _⟩ := hat j (by omega)
    rw [W_loop]
    cases hb : strEq (S j).name s.name with
    | true =>
      simp (disch := as_aux_lemma => first | omega | simp only [hDs] <;> omega | simp [isCell]) [hRs, takeMarks, resA, resAll, resOne, Value.cells, body136n, u0, u3, u4, t5, show ((j : Int) < i) by omega, idxSA_ok, hx, p2, hX, strOpA, strA, hb]
      exact herr _ (List.any_eq_true.2 ⟨j, by simp; omega, hb⟩) (by simp)
    | false =>
      simp (disch := as_aux_lemma => first | omega | simp only [hDs] <;> omega | simp [isCell]) [hRs, takeMarks, resA, resAll, resOne, Value.cells, body136n, u0, u3, u4, t5, show ((j : Int) < i) by omega, idxSA_ok, hx, p2, hX, strOpA, strA, hb]
      refine ih (j + 1) (by omega) (fun l hl => ?_) (hk.trans (by simp)) (by simp [wrId (n := (j : Int) + 1) (by omega) (by omega)])
      rcases Nat.lt_or_ge l j with h | h
      · exact hno l h
      · have : l = j := by omega
        subst this; exact hb
theorem loop136i {X4 i : Nat} {a : Value} {s : StepT} (ha : RdS A 1 s.an (ints s.al) a) (hX : A.get X4 = some (.cells (stepC a s) false)) (hn : s.an < 1000000)
    (herr : ∀ T' e, firstE (aftE i s.al) s.an = e → e ≠ 0 → tget T' 2 = .int .i64 e → Q .ret ⟨T', D, A⟩) (hend : ∀ T', firstE (aftE i s.al) s.an = 0 → KeepT [0, 3, 4] T T' → Q (.exit 4) ⟨T', D, A⟩)
    (t3 : tget T 3 = .int .i64 i) (t4 : tget T 4 = .pointer (some ⟨X4, 0, none⟩)) :
    ∀ (k j : Nat) {T1 : List Value}, j + k = s.an → firstE (aftE i s.al) j = 0 → KeepT [0, 3, 4] T T1 → tget T1 6 = .int .i64 j → W AP KL g rd (.loop body136i) ⟨T1, D, A⟩ Q := by
  have hl := ha.1
  rw [ints_length, Nat.mul_one] at hl
  have hlen := ha.len
  have hX' := hX
  unfold stepC at hX'
  intro k
  induction k with
  | zero =>
    intro j T1 hik hok hk t6
    have : j = s.an := by omega
    subst this
    have u4 := (hk.at 4 rfl).trans t4
    rw [W_loop]
    simp (disch := as_aux_lemma => first | omega | simp only [hDs] <;> omega | simp [isCell]) [hRs, takeMarks, resA, resAll, resOne, Value.cells, body136i, u4, t6, hX', hlen]
    exact hend _ hok (hk.trans (by simp))
  | succ k ih =>
    intro j T1 hik hok hk t6
    have u3 := (hk.at 3 rfl).trans t3
    have u4 := (hk.at 4 rfl).trans t4
    obtain ⟨y, c, ro, rfl, hy⟩ := ha.at (i := j) (by omega)
    obtain ⟨v, hv⟩ : ∃ v, v = gi s.al j := ⟨_, rfl⟩
    have hyv : cellAt (ints s.al) j = some (.int .i64 v) := by rw [hv]; exact ints_get (by omega)
    have hlt : (j : Int) < s.an := by omega
    obtain ⟨n, hne⟩ : ∃ n, n = s.an := ⟨_, rfl⟩
    rw [← hne] at hX' hlt hlen
    rw [W_loop]
    by_cases c1 : v < 0
    · simp (disch := as_aux_lemma => first | omega | simp only [hDs] <;> omega | simp [isCell]) [hRs, takeMarks, resA, resAll, resOne, Value.cells, body136i, u3, u4, t6, hX', hlen, hlt, idxSA_ok, hy, hyv, c1]
      exact herr _ 4 (firstE_at hok (by omega) (aftE_a (.inl (by rw [← hv]; exact c1))) (by decide)) (by decide) (by simp)
    · by_cases c2 : (i : Int) ≤ v
      · simp (disch := as_aux_lemma => first | omega | simp only [hDs] <;> omega | simp [isCell]) [hRs, takeMarks, resA, resAll, resOne, Value.cells, body136i, u3, u4, t6, hX', hlen, hlt, idxSA_ok, hy, hyv, c1, c2]
        exact herr _ 4 (firstE_at hok (by omega) (aftE_a (.inr (by rw [← hv]; exact c2))) (by decide)) (by decide) (by simp)
      · have hno : ¬ (gi s.al j < 0 ∨ (i : Int) ≤ gi s.al j) := by rw [← hv]; omega
        simp (disch := as_aux_lemma => first | omega | simp only [hDs] <;> omega | simp [isCell]) [hRs, takeMarks, resA, resAll, resOne, Value.cells, body136i, u3, u4, t6, hX', hlen, hlt, idxSA_ok, hy, hyv, c1, c2, intOfA, boundA, resl_some (show j ≤ n by omega)]
        refine w171 (n := j) (al := s.al) ⟨by rw [ints_length]; omega, .inr ⟨y, _, ro, rfl, hy⟩⟩ (by omega) ?_
        by_cases c3 : v ∈ s.al.take j
        · simp (disch := as_aux_lemma => first | omega | simp only [hDs] <;> omega | simp [isCell]) [hRs, takeMarks, resA, resAll, resOne, Value.cells, c3]
          exact herr _ 2 (firstE_at hok (by omega) (aftE_b hno (by rw [← hv]; exact c3)) (by decide)) (by decide) (by simp)
        · simp (disch := as_aux_lemma => first | omega | simp only [hDs] <;> omega | simp [isCell]) [hRs, takeMarks, resA, resAll, resOne, Value.cells, c3, t6]
          exact ih (j + 1) (by omega) (firstE_next hok (aftE_c hno (by rw [← hv]; exact c3))) (hk.trans (by simp)) (by simp [wrId (n := (j : Int) + 1) (by omega) (by omega)])
theorem loop136 {A0 : Hp} {n : Nat} {S : Nat → StepT} {sl : Value} (hsl : Steps A0 n S sl) (hn : n ≤ 32) (hS : ∀ i, i < n → (S i).name.size < 1000000 ∧ (S i).an < 1000000) (hg : g ≤ A0.n)
    (herr : ∀ T' A' e, firstE (stpE S) n = e → e ≠ 0 → Ext' A0 A' → tget T' 2 = .int .i64 e → Q .ret ⟨T', D, A'⟩) (hend : ∀ T' A', firstE (stpE S) n = 0 → Ext' A0 A' → Q (.exit 0) ⟨T', D, A'⟩) :
    ∀ (k i : Nat) {T1 : List Value} {A : Hp}, i + k = n → firstE (stpE S) i = 0 → Ext' A0 A → tget T1 0 = sl → tget T1 3 = .int .i64 i → W AP KL g rd (.loop body136) ⟨T1, D, A⟩ Q := by
  intro k
  induction k with
  | zero =>
    intro i T1 A hik hok he t0 t3
    have : i = n := by omega
    subst this
    rw [W_loop]
    simp (disch := as_aux_lemma => first | omega | simp only [hDs] <;> omega | simp [isCell]) [hRs, takeMarks, resA, resAll, resOne, Value.cells, body136, t0, t3, (hsl.ext he).len]
    exact hend _ A hok he
  | succ k ih =>
    intro i T1 A hik hok he t0 t3
    have hlenS := (hsl.ext he).len
    obtain ⟨x, c, ro, cells, rfl, hx, hcl, hat⟩ := (hsl.ext he).at (i := i) (by omega)
    obtain ⟨a, p1, p2, p3, p4, p5, p6, p7, p8, p9, ra⟩ := hat i (by omega)
    have hgA := Nat.le_trans hg he.1
    obtain ⟨s, hs⟩ : ∃ s, s = S i := ⟨_, rfl⟩
    have hSi := hS i (by omega)
    rw [← hs] at p1 ra hSi
    have eP := Ext'.push A (.cells (stepC a s) false)
    obtain ⟨B, hB⟩ : ∃ B, B = A.push (.cells (stepC a s) false) := ⟨_, rfl⟩
    rw [← hB] at eP
    have hX : B.get A.n = some (.cells (stepC a s) false) := by rw [hB, get_push_new]
    have hB' : A.push (.cells [.string s.name, a, .int .i64 s.tl, .int .i64 s.th, .bool s.calm, .bool s.clear, .int .i64 s.logs] false) = B := hB.symm
    have hX' : B.get A.n = some (.cells [.string s.name, a, .int .i64 s.tl, .int .i64 s.th, .bool s.calm, .bool s.clear, .int .i64 s.logs] false) := hX
    obtain ⟨pa, na, rfl⟩ := ra.isSlice
    have hxB := eP.get hx
    have e01 := he.trans eP
    rw [W_loop]
    simp (disch := as_aux_lemma => first | omega | simp only [hDs] <;> omega | simp [isCell]) [hRs, takeMarks, resA, resAll, resOne, Value.cells, body136, t0, t3, hlenS, show ((i : Int) < n) by omega, idxSA_ok, hx, p1, stepC, storeB_cells, setRange, set_push_eq, hB', hX']
    refine w170 hSi.1 ?_
    cases c1 : nameB s.name with
    | false =>
      simp (disch := as_aux_lemma => first | omega | simp only [hDs] <;> omega | simp [isCell]) [hRs, takeMarks, resA, resAll, resOne, Value.cells]
      exact herr _ _ 10 (firstE_at hok (by omega) (stpE_a (by rw [← hs]; exact c1)) (by decide)) (by decide) e01 (by simp)
    | true =>
      simp (disch := as_aux_lemma => first | omega | simp only [hDs] <;> omega | simp [isCell]) [hRs, takeMarks, resA, resAll, resOne, Value.cells]
      have hsame : (List.range i).any (fun k => strEq (S k).name s.name) = sameN S i := by rw [hs]; rfl
      refine loop136n (X4 := A.n) (n := n) (c := c) (i := i) (S := S) (s := s) hxB (fun j hj => (hat j hj).mono eP.2) (by omega) hn hX ?_ ?_ (T := _) ?_ ?_ ?_ i 0 (by omega) (fun l hl => absurd hl (by omega)) (fun _ _ => rfl) (by simp)
      · intro T' c2 t2
        rw [hsame] at c2
        simp (disch := as_aux_lemma => first | omega | simp only [hDs] <;> omega | simp [isCell]) [hRs, takeMarks, resA, resAll, resOne, Value.cells]
        exact herr _ _ 5 (firstE_at hok (by omega) (stpE_b (by rw [← hs]; exact c1) c2) (by decide)) (by decide) e01 t2
      · intro T2 c2 k2
        rw [hsame] at c2
        have w0 := k2.at 0 rfl
        have w3 := k2.at 3 rfl
        have w4 := k2.at 4 rfl
        simp [t0, t3] at w0 w3 w4
        simp (disch := as_aux_lemma => first | omega | simp only [hDs] <;> omega | simp [isCell]) [hRs, takeMarks, resA, resAll, resOne, Value.cells]
        refine loop136i (X4 := A.n) (i := i) (s := s) (eP.rdS ra) hX hSi.2 ?_ ?_ (T := _) ?_ ?_ s.an 0 (by omega) rfl (fun _ _ => rfl) (by simp)
        · intro T' e hee hne t2
          simp (disch := as_aux_lemma => first | omega | simp only [hDs] <;> omega | simp [isCell]) [hRs, takeMarks, resA, resAll, resOne, Value.cells]
          exact herr _ _ e (firstE_at hok (by omega) (stpE_c (by rw [← hs]; exact c1) c2 (by rw [← hs]; exact hee) hne) hne) hne e01 t2
        · intro T' hz hk
          have hlast : stpE S i = lastE s := by rw [hs]; exact stpE_d (by rw [← hs]; exact c1) c2 (by rw [← hs]; exact hz)
          have v0 := hk.at 0 rfl
          have v3 := hk.at 3 rfl
          have v4 := hk.at 4 rfl
          simp [w0, w3, w4] at v0 v3 v4
          simp (disch := as_aux_lemma => first | omega | simp only [hDs] <;> omega | simp [isCell]) [hRs, takeMarks, resA, resAll, resOne, Value.cells, v4, hX']
          refine w159 fun A3 n3 o3 => ?_
          have e3 : Ext' B A3 := ⟨by omega, o3⟩
          have hX3' := e3.get hX'
          have bad : lastE s = 3 → ∀ T', tget T' 2 = .int .i64 3 → Q .ret ⟨T', D, A3⟩ := fun h T' t2 => herr _ _ 3 (firstE_at hok (by omega) (by rw [hlast, h]) (by decide)) (by decide) (e01.trans e3) t2
          cases c3 : validB s.tl s.th 0 100000000 with
          | false =>
            simp (disch := as_aux_lemma => first | omega | simp only [hDs] <;> omega | simp [isCell]) [hRs, takeMarks, resA, resAll, resOne, Value.cells]
            exact bad (by simp [lastE, c3]) _ (by simp)
          | true =>
            by_cases c4 : s.logs < 0
            · simp (disch := as_aux_lemma => first | omega | simp only [hDs] <;> omega | simp [isCell]) [hRs, takeMarks, resA, resAll, resOne, Value.cells, v4, hX3', c4]
              exact bad (by simp [lastE, c4]) _ (by simp)
            · by_cases c5 : 100 < s.logs
              · simp (disch := as_aux_lemma => first | omega | simp only [hDs] <;> omega | simp [isCell]) [hRs, takeMarks, resA, resAll, resOne, Value.cells, v4, hX3', c4, c5]
                exact bad (by simp [lastE, c5]) _ (by simp)
              · simp (disch := as_aux_lemma => first | omega | simp only [hDs] <;> omega | simp [isCell]) [hRs, takeMarks, resA, resAll, resOne, Value.cells, v4, hX3', v3, c4, c5]
                exact ih (i + 1) (by omega) (firstE_next hok (by rw [hlast]; simp [lastE, c3]; omega)) (e01.trans e3) (by simp [v0]) (by simp [wrId (n := (i : Int) + 1) (by omega) (by omega)])
        · simp [w3]
        · simp [w4]
      · simp [t0]
      · simp [t3]
      · simp
theorem w136 {n : Nat} {S : Nat → StepT} {sl : Value} (hsl : Steps A n S sl) (hn : n < 1000000) (hS : ∀ i, i < n → (S i).name.size < 1000000 ∧ (S i).an < 1000000) (hg : g ≤ A.n) (hV : ∀ A', Ext' A A' → V (.int .i64 (stepsE n S)) A') : WF AP KL g 136 [sl] A V := by
  rw [WF_body (show KL 136 = none from rfl) (show AP 136 = some F136 from rfl)]
  by_cases c1 : (32 : Int) < n
  · have : stepsE n S = 9 := if_pos (by omega)
    simp (disch := as_aux_lemma => first | omega | simp only [hDs] <;> omega | simp [isCell]) [hRs, takeMarks, resA, resAll, resOne, Value.cells, F136, hsl.len, c1]
    rw [← this]; exact hV _ (Ext'.refl _)
  · have hE : stepsE n S = firstE (stpE S) n := if_neg (by omega)
    simp (disch := as_aux_lemma => first | omega | simp only [hDs] <;> omega | simp [isCell]) [hRs, takeMarks, resA, resAll, resOne, Value.cells, F136, hsl.len, c1]
    refine loop136 hsl (by omega) hS hg ?_ ?_ n 0 (by omega) rfl (Ext'.refl _) (by simp) (by simp)
    · intro T' A' e he hne ee t2
      simp (disch := as_aux_lemma => first | omega | simp only [hDs] <;> omega | simp [isCell]) [hRs, takeMarks, resA, resAll, resOne, Value.cells, t2]
      rw [← he, ← hE]; exact hV _ ee
    · intro T' A' he ee
      simp (disch := as_aux_lemma => first | omega | simp only [hDs] <;> omega | simp [isCell]) [hRs, takeMarks, resA, resAll, resOne, Value.cells]
      rw [← he, ← hE]; exact hV _ ee
end
end Go.Ab.Dike
namespace Go.Ab.Dike
open Go Go.Ab
def never : Int := 1099511627776
def slotAt (r t : Int) (ws : List Int) (i : Nat) : Int := wr .i64 (max r (gi ws (i * 2)) + t)
def slotV (r t : Int) (ws : List Int) : Nat → Nat → Int
  | 0, _ => never
  | k + 1, i => if slotAt r t ws i ≤ gi ws (i * 2 + 1) then slotAt r t ws i else slotV r t ws k (i + 1)
def endV (r t : Int) (calm : Bool) (ws : List Int) (nw : Nat) : Int := if r = never then never else if calm then slotV r t ws nw 0 else wr .i64 (r + t)
def winE (ws : List Int) (i : Nat) : Int := if validB (gi ws (i * 2)) (gi ws (i * 2 + 1)) 0 1000000000 = false then 3 else if 0 < i ∧ gi ws (i * 2) ≤ gi ws ((i - 1) * 2 + 1) then 2 else 0
theorem winE_a {ws : List Int} {i : Nat} (h : validB (gi ws (i * 2)) (gi ws (i * 2 + 1)) 0 1000000000 = false) : winE ws i = 3 := if_pos h
theorem winE_b {ws : List Int} {i : Nat} (h : validB (gi ws (i * 2)) (gi ws (i * 2 + 1)) 0 1000000000 = true) (h2 : 0 < i ∧ gi ws (i * 2) ≤ gi ws ((i - 1) * 2 + 1)) : winE ws i = 2 := by rw [winE, h, if_neg (by decide), if_pos h2]
theorem winE_c {ws : List Int} {i : Nat} (h : validB (gi ws (i * 2)) (gi ws (i * 2 + 1)) 0 1000000000 = true) (h2 : ¬ (0 < i ∧ gi ws (i * 2) ≤ gi ws ((i - 1) * 2 + 1))) : winE ws i = 0 := by rw [winE, h, if_neg (by decide), if_neg h2]
section
variable {g : Nat} {rd : Option Nat} {T : List Value} {D : List Nat} {A : Hp} {Q : Ex → St → Prop} {V : Value → Hp → Prop}
theorem w163 {a b c d : Int} (hg : g ≤ A.n) (hV : ∀ A', Ext' A A' → V (.agg ⟨[.int .i64 (max a c), .int .i64 (max b d)]⟩) A') : WF AP KL g 163 [.agg ⟨[.int .i64 a, .int .i64 b]⟩, .agg ⟨[.int .i64 c, .int .i64 d]⟩] A V := by
  rw [WF_body (show KL 163 = none from rfl) (show AP 163 = some F163 from rfl)]
  simp (disch := as_aux_lemma => first | omega | simp only [hDs] <;> omega | simp [isCell]) [hRs, takeMarks, resA, resAll, resOne, Value.cells, F163, fillA, setRange, storeB_cells, set_push_eq]
  exact hV _ (((Ext'.push A _).trans (Ext'.push _ _)).trans (Ext'.push _ _))
theorem loop197 {A0 : Hp} {n : Nat} {ws : List Int} {sl : Value} {r t : Int} (hsl : RdS A0 2 n (ints ws) sl) (hn : n < 1000000) (hg : g ≤ A0.n)
    (hin : ∀ T' A', Ext' A0 A' → tget T' 6 = .int .i64 (slotV r t ws n 0) → Q .ret ⟨T', D, A'⟩) (hout : ∀ T' A', slotV r t ws n 0 = never → Ext' A0 A' → Q (.exit 0) ⟨T', D, A'⟩) :
    ∀ (k i : Nat) {T : List Value} {A : Hp}, i + k = n → slotV r t ws n 0 = slotV r t ws k i → Ext' A0 A → tget T 0 = .int .i64 r → tget T 1 = .int .i64 t → tget T 10 = sl → tget T 11 = .int .i64 n → tget T 12 = .int .i64 i → W AP KL g rd (.loop body197) ⟨T, D, A⟩ Q := by
  have hl := hsl.1
  rw [ints_length] at hl
  intro k
  induction k with
  | zero =>
    intro i T A hik hs he t0 t1 t10 t11 t12
    have : i = n := by omega
    subst this
    rw [W_loop]
    simp (disch := as_aux_lemma => first | omega | simp only [hDs] <;> omega | simp [isCell]) [hRs, takeMarks, resA, resAll, resOne, Value.cells, body197, t11, t12]
    exact hout _ A hs he
  | succ k ih =>
    intro i T A hik hs he t0 t1 t10 t11 t12
    obtain ⟨x, c, ro, rfl, hx⟩ := (he.rdS hsl).at (i := i) (by omega)
    have hgA := Nat.le_trans hg he.1
    have eP := he.trans (Ext'.push A (.cells [.int .i64 (gi ws (i * 2)), .int .i64 (gi ws (i * 2 + 1))] false))
    have hstep : slotV r t ws (k + 1) i = if slotAt r t ws i ≤ gi ws (i * 2 + 1) then slotAt r t ws i else slotV r t ws k (i + 1) := rfl
    rw [W_loop]
    by_cases h : wr .i64 (max r (gi ws (i * 2)) + t) ≤ gi ws (i * 2 + 1)
    · simp (disch := as_aux_lemma => first | omega | simp only [hDs] <;> omega | simp [isCell]) [hRs, takeMarks, resA, resAll, resOne, Value.cells, body197, t0, t1, t10, t11, t12, show ((i : Int) < n) by omega, idxSA_ok, hx, ints_two, storeB_cells, setRange, set_push_eq, h]
      refine hin _ _ eP ?_
      rw [hs, hstep, if_pos (show slotAt r t ws i ≤ _ from h)]
      simp [slotAt]
    · simp (disch := as_aux_lemma => first | omega | simp only [hDs] <;> omega | simp [isCell]) [hRs, takeMarks, resA, resAll, resOne, Value.cells, body197, t0, t1, t10, t11, t12, show ((i : Int) < n) by omega, idxSA_ok, hx, ints_two, storeB_cells, setRange, set_push_eq, h]
      exact ih (i + 1) (by omega) (by rw [hs, hstep, if_neg (show ¬ slotAt r t ws i ≤ _ from h)]) eP (by simp [t0]) (by simp [t1]) (by simp [t10]) (by simp [t11]) (by simp [wrId (n := (i : Int) + 1) (by omega) (by omega)])
theorem w197 {n : Nat} {ws : List Int} {sl : Value} {r t : Int} (hsl : RdS A 2 n (ints ws) sl) (hn : n < 1000000) (hg : g ≤ A.n) (hV : ∀ A', Ext' A A' → V (.int .i64 (slotV r t ws n 0)) A') : WF AP KL g 197 [.int .i64 r, .int .i64 t, sl] A V := by
  rw [WF_body (show KL 197 = none from rfl) (show AP 197 = some F197 from rfl)]
  simp (disch := as_aux_lemma => first | omega | simp only [hDs] <;> omega | simp [isCell]) [hRs, takeMarks, resA, resAll, resOne, Value.cells, F197, hsl.len]
  refine loop197 (r := r) (t := t) hsl hn hg ?_ ?_ n 0 (by omega) rfl (Ext'.refl _) (by simp) (by simp) (by simp) (by simp) (by simp)
  · intro T' A' he t6
    simp (disch := as_aux_lemma => first | omega | simp only [hDs] <;> omega | simp [isCell]) [hRs, takeMarks, resA, resAll, resOne, Value.cells, t6]
    exact hV A' he
  · intro T' A' hs he
    simp (disch := as_aux_lemma => first | omega | simp only [hDs] <;> omega | simp [isCell]) [hRs, takeMarks, resA, resAll, resOne, Value.cells]
    have := hV A' he
    rw [hs] at this; exact this
theorem w164 {n : Nat} {ws : List Int} {sl : Value} {r t : Int} {a : Value} {s : StepT} (hsl : RdS A 2 n (ints ws) sl) (hn : n < 1000000) (hg : g ≤ A.n) (hV : ∀ A', Ext' A A' → V (.int .i64 (endV r t s.calm ws n)) A') : WF AP KL g 164 [.agg ⟨stepC a s⟩, .int .i64 r, .int .i64 t, sl] A V := by
  rw [WF_body (show KL 164 = none from rfl) (show AP 164 = some F164 from rfl)]
  have eP := Ext'.push A (.cells (stepC a s) false)
  by_cases h1 : r = 1099511627776
  · have : endV r t s.calm ws n = never := if_pos h1
    simp (disch := as_aux_lemma => first | omega | simp only [hDs] <;> omega | simp [isCell]) [hRs, takeMarks, resA, resAll, resOne, Value.cells, F164, stepC, h1]
    have hv := hV _ eP
    rw [this] at hv; exact hv
  · cases hc : s.calm with
    | true =>
      have : endV r t s.calm ws n = slotV r t ws n 0 := by rw [endV, if_neg (show ¬ r = never from h1), hc]; rfl
      simp (disch := as_aux_lemma => first | omega | simp only [hDs] <;> omega | simp [isCell]) [hRs, takeMarks, resA, resAll, resOne, Value.cells, F164, stepC, h1, hc]
      refine w197 hsl.push hn (by simp; omega) fun A1 e1 => ?_
      simp (disch := as_aux_lemma => first | omega | simp only [hDs] <;> omega | simp [isCell]) [hRs, takeMarks, resA, resAll, resOne, Value.cells]
      have hv := hV A1 ((Ext'.push A _).trans e1)
      rw [this] at hv; exact hv
    | false =>
      have : endV r t s.calm ws n = wr .i64 (r + t) := by rw [endV, if_neg (show ¬ r = never from h1), hc]; rfl
      simp (disch := as_aux_lemma => first | omega | simp only [hDs] <;> omega | simp [isCell]) [hRs, takeMarks, resA, resAll, resOne, Value.cells, F164, stepC, h1, hc]
      have hv := hV _ (Ext'.push A (.cells [.string s.name, a, .int .i64 s.tl, .int .i64 s.th, .bool false, .bool s.clear, .int .i64 s.logs] false))
      rw [this] at hv; exact hv
theorem loop165 {n : Nat} {ws : List Int} {sl : Value} {r t : Int} (hsl : RdS A 2 n (ints ws) sl) (hn : n < 1000000)
    (hin : ∀ T', tget T' 8 = .int .i64 (slotV r t ws n 0) → Q .ret ⟨T', D, A⟩) (hout : ∀ T', slotV r t ws n 0 = never → Q (.exit 0) ⟨T', D, A⟩) :
    ∀ (k i : Nat) {T : List Value}, i + k = n → slotV r t ws n 0 = slotV r t ws k i → tget T 0 = .int .i64 r → tget T 1 = .int .i64 t → tget T 3 = sl → tget T 9 = .int .i64 i → W AP KL g rd (.loop body165) ⟨T, D, A⟩ Q := by
  have hl := hsl.1
  rw [ints_length] at hl
  have hlen := hsl.len
  intro k
  induction k with
  | zero =>
    intro i T hik hs t0 t1 t3 t9
    have : i = n := by omega
    subst this
    rw [W_loop]
    simp (disch := as_aux_lemma => first | omega | simp only [hDs] <;> omega | simp [isCell]) [hRs, takeMarks, resA, resAll, resOne, Value.cells, body165, t3, t9, hlen]
    exact hout _ hs
  | succ k ih =>
    intro i T hik hs t0 t1 t3 t9
    obtain ⟨x, c, ro, rfl, hx⟩ := hsl.at (i := i) (by omega)
    have hstep : slotV r t ws (k + 1) i = if slotAt r t ws i ≤ gi ws (i * 2 + 1) then slotAt r t ws i else slotV r t ws k (i + 1) := rfl
    rw [W_loop]
    by_cases h : wr .i64 (max r (gi ws (i * 2)) + t) ≤ gi ws (i * 2 + 1)
    · simp (disch := as_aux_lemma => first | omega | simp only [hDs] <;> omega | simp [isCell]) [hRs, takeMarks, resA, resAll, resOne, Value.cells, body165, t0, t1, t3, t9, hlen, show ((i : Int) < n) by omega, idxSA_ok, hx, ints_get, h]
      refine hin _ ?_
      rw [hs, hstep, if_pos (show slotAt r t ws i ≤ _ from h)]
      simp [slotAt]
    · simp (disch := as_aux_lemma => first | omega | simp only [hDs] <;> omega | simp [isCell]) [hRs, takeMarks, resA, resAll, resOne, Value.cells, body165, t0, t1, t3, t9, hlen, show ((i : Int) < n) by omega, idxSA_ok, hx, ints_get, h]
      exact ih (i + 1) (by omega) (by rw [hs, hstep, if_neg (show ¬ slotAt r t ws i ≤ _ from h)]) (by simp [t0]) (by simp [t1]) (by simp [t3]) (by simp [wrId (n := (i : Int) + 1) (by omega) (by omega)])
theorem w165 {n : Nat} {ws : List Int} {sl : Value} {r t : Int} {calm : Bool} (hsl : RdS A 2 n (ints ws) sl) (hn : n < 1000000) (hr : r ≤ never) (hV : V (.int .i64 (endV r t calm ws n)) A) : WF AP KL g 165 [.int .i64 r, .int .i64 t, .bool calm, sl] A V := by
  rw [WF_body (show KL 165 = none from rfl) (show AP 165 = some F165 from rfl)]
  unfold never at hr
  by_cases h1 : r = 1099511627776
  · have : endV r t calm ws n = never := if_pos h1
    simp (disch := as_aux_lemma => first | omega | simp only [hDs] <;> omega | simp [isCell]) [hRs, takeMarks, resA, resAll, resOne, Value.cells, F165, h1]
    rw [this] at hV; exact hV
  · have h2 : ¬ 1099511627776 ≤ r := by omega
    cases calm with
    | true =>
      have : endV r t true ws n = slotV r t ws n 0 := by rw [endV, if_neg (show ¬ r = never from h1)]; rfl
      rw [this] at hV
      simp (disch := as_aux_lemma => first | omega | simp only [hDs] <;> omega | simp [isCell]) [hRs, takeMarks, resA, resAll, resOne, Value.cells, F165, h2]
      refine loop165 (r := r) (t := t) hsl hn ?_ ?_ n 0 (by omega) rfl (by simp) (by simp) (by simp) (by simp)
      · intro T' t8
        simp (disch := as_aux_lemma => first | omega | simp only [hDs] <;> omega | simp [isCell]) [hRs, takeMarks, resA, resAll, resOne, Value.cells, t8]
        exact hV
      · intro T' hs
        simp (disch := as_aux_lemma => first | omega | simp only [hDs] <;> omega | simp [isCell]) [hRs, takeMarks, resA, resAll, resOne, Value.cells]
        rw [hs] at hV; exact hV
    | false =>
      have : endV r t false ws n = wr .i64 (r + t) := by rw [endV, if_neg (show ¬ r = never from h1)]; rfl
      rw [this] at hV
      simp (disch := as_aux_lemma => first | omega | simp only [hDs] <;> omega | simp [isCell]) [hRs, takeMarks, resA, resAll, resOne, Value.cells, F165, h2]
      exact hV
def zSpan : ABlk := .cells [.int .i64 0, .int .i64 0] false
theorem loop133w {A0 : Hp} {X7 n : Nat} {ws : List Int} {sl : Value} (hsl : RdS A0 2 n (ints ws) sl) (hn : n < 1000000) (h7 : A0.get X7 = some zSpan) (hg : g ≤ X7)
    (herr : ∀ T' A' e, firstE (winE ws) n = e → e ≠ 0 → But X7 A0 A' → A'.get X7 = some zSpan → tget T' 6 = .slice none 0 0 → tget T' 7 = .pointer (some ⟨X7, 0, none⟩) → tget T' 8 = .int .i64 e → Q .ret ⟨T', D, A'⟩)
    (hend : ∀ T' A', firstE (winE ws) n = 0 → Ext' A0 A' → KeepT [0, 2, 4, 7] T T' → Q (.exit 1) ⟨T', D, A'⟩) (t2 : tget T 2 = sl) (t7 : tget T 7 = .pointer (some ⟨X7, 0, none⟩)) :
    ∀ (k i : Nat) {T1 : List Value} {A : Hp}, i + k = n → firstE (winE ws) i = 0 → Ext' A0 A → KeepT [0, 2, 4, 7] T T1 → tget T1 36 = sl → tget T1 37 = .int .i64 n → tget T1 38 = .int .i64 i → W AP KL g rd (.loop body133w) ⟨T1, D, A⟩ Q := by
  have hl := hsl.1
  rw [ints_length] at hl
  intro k
  induction k with
  | zero =>
    intro i T1 A hik hok he hk t36 t37 t38
    have : i = n := by omega
    subst this
    rw [W_loop]
    simp (disch := as_aux_lemma => first | omega | simp only [hDs] <;> omega | simp [isCell]) [hRs, takeMarks, resA, resAll, resOne, Value.cells, body133w, t37, t38]
    exact hend _ A hok he (hk.trans (by simp))
  | succ k ih =>
    intro i T1 A hik hok he hk t36 t37 t38
    have u2 := (hk.at 2 rfl).trans t2
    have u7 := (hk.at 7 rfl).trans t7
    obtain ⟨x, c, ro, rfl, hx⟩ := (he.rdS hsl).at (i := i) (by omega)
    have hxn := Hp.lt_of_get hx
    have g7 := he.get h7
    have h7n := Hp.lt_of_get h7
    have hA0 := he.1
    obtain ⟨lo, hlo⟩ : ∃ lo, lo = gi ws (i * 2) := ⟨_, rfl⟩
    obtain ⟨hi, hhi⟩ : ∃ hi, hi = gi ws (i * 2 + 1) := ⟨_, rfl⟩
    have hp : partA (ints ws) (i * 2) (some 2) = some (.agg ⟨[.int .i64 lo, .int .i64 hi]⟩) := by rw [hlo, hhi]; exact ints_two (by omega)
    rw [W_loop]
    simp (disch := as_aux_lemma => first | omega | simp only [hDs] <;> omega | simp [isCell]) [hRs, takeMarks, resA, resAll, resOne, Value.cells, body133w, t36, t37, t38, show ((i : Int) < n) by omega, idxSA_ok, hx, hp, storeB_cells, setRange, set_push_eq]
    refine w160 fun A1 n1 o1 => ?_
    have e0 := Ext'.push A (.cells [.int .i64 lo, .int .i64 hi] false)
    have e1 := e0.trans (show Ext' _ A1 from ⟨by omega, o1⟩)
    have g71 := e1.get g7
    have hx1 := e1.get hx
    have gX := o1 A.n (by simp)
    rw [get_push_new] at gX
    have hXn := Hp.lt_of_get gX
    cases c1 : validB lo hi 0 1000000000 with
    | false =>
      simp (disch := as_aux_lemma => first | omega | simp only [hDs] <;> omega | simp [isCell]) [hRs, takeMarks, resA, resAll, resOne, Value.cells, u7, fillA, g71, zSpan, storeB_cells, setRange]
      exact herr _ _ 3 (firstE_at hok (by omega) (winE_a (by rw [← hlo, ← hhi]; exact c1)) (by decide)) (by decide) (But.trans (But.of_ext he) (But.set (by omega) e1)) (get_set_same g71) (by simp) (by simp [u7]) (by simp)
    | true =>
      by_cases c2 : 0 < i
      · have e3 := wrId (n := (i : Int) - 1) (by omega) (by omega)
        have hq := ints_get (l := ws) (o := (i - 1) * 2 + 1) (by omega)
        obtain ⟨j, hj⟩ : ∃ j, i = j + 1 := ⟨i - 1, by omega⟩
        subst hj
        simp only [Nat.add_sub_cancel] at hq
        have e4 : ((j + 1 : Nat) : Int) - 1 = j := by omega
        rw [e4] at e3
        by_cases c3 : lo ≤ gi ws (j * 2 + 1)
        · simp (disch := as_aux_lemma => first | omega | simp only [hDs] <;> omega | simp [isCell]) [hRs, takeMarks, resA, resAll, resOne, Value.cells, u2, u7, gX, hx1, e3, idxSA_ok, hq, c3, fillA, g71, zSpan, storeB_cells, setRange]
          exact herr _ _ 2 (firstE_at hok (by omega) (winE_b (by rw [← hlo, ← hhi]; exact c1) ⟨by omega, by rw [← hlo]; exact c3⟩) (by decide)) (by decide) (But.trans (But.of_ext he) (But.set (by omega) e1)) (get_set_same g71) (by simp) (by simp [u7]) (by simp)
        · simp (disch := as_aux_lemma => first | omega | simp only [hDs] <;> omega | simp [isCell]) [hRs, takeMarks, resA, resAll, resOne, Value.cells, u2, u7, gX, hx1, e3, idxSA_ok, hq, c3, t38]
          exact ih (j + 1 + 1) (by omega) (firstE_next hok (winE_c (by rw [← hlo, ← hhi]; exact c1) (by rw [← hlo]; simp; omega))) (he.trans e1) (hk.trans (by simp)) (by simp [t36]) (by simp [t37]) (by simp; exact wrId (by omega) (by omega))
      · have : i = 0 := by omega
        subst this
        simp (disch := as_aux_lemma => first | omega | simp only [hDs] <;> omega | simp [isCell]) [hRs, takeMarks, resA, resAll, resOne, Value.cells, t38]
        exact ih 1 (by omega) (firstE_next hok (winE_c (by rw [← hlo, ← hhi]; exact c1) (by omega))) (he.trans e1) (hk.trans (by simp)) (by simp [t36]) (by simp [t37]) (by simp; decide)
end
end Go.Ab.Dike
