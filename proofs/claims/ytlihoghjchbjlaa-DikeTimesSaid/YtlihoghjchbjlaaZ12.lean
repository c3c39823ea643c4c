/- DikeTruth: its checks of lists, and the narrower levels. -/
import Derived.Test.YtlihoghjchbjlaaZ11
import Derived.Test.YtlihoghjchbjlaaZ10
import Derived.DataShut
set_option linter.unusedSimpArgs false
set_option linter.unusedVariables false
set_option linter.unusedSectionVars false
namespace Go.Ab.Dike
open Go Go.Ab
structure StepT where
  name : ByteArray
  an : Nat
  al : List Int
  tl : Int
  th : Int
  calm : Bool
  clear : Bool
  logs : Int
def stepC (a : Value) (s : StepT) : List Value := [.string s.name, a, .int .i64 s.tl, .int .i64 s.th, .bool s.calm, .bool s.clear, .int .i64 s.logs]
def StepAt (A : Hp) (cells : List Value) (i : Nat) (s : StepT) : Prop :=
  ∃ a, partA cells (i * 7) (some 7) = some (.agg ⟨stepC a s⟩) ∧ cellAt cells (i * 7) = some (.string s.name) ∧ cellAt cells (i * 7 + 1) = some a ∧ partA cells (i * 7 + 2) (some 2) = some (.agg ⟨[.int .i64 s.tl, .int .i64 s.th]⟩) ∧
    cellAt cells (i * 7 + 2) = some (.int .i64 s.tl) ∧ cellAt cells (i * 7 + 3) = some (.int .i64 s.th) ∧ cellAt cells (i * 7 + 4) = some (.bool s.calm) ∧ cellAt cells (i * 7 + 5) = some (.bool s.clear) ∧ cellAt cells (i * 7 + 6) = some (.int .i64 s.logs) ∧ RdS A 1 s.an (ints s.al) a
def Steps (A : Hp) (n : Nat) (S : Nat → StepT) (sl : Value) : Prop := ∃ cells, RdS A 7 n cells sl ∧ ∀ i, i < n → StepAt A cells i (S i)
theorem StepAt.mono {A A' : Hp} {cells : List Value} {i : Nat} {f : StepT} (h : StepAt A cells i f) (hA : ∀ z, z < A.n → A'.get z = A.get z) : StepAt A' cells i f := by
  obtain ⟨a, h1, h2, h3, h4, h5, h6, h7, h8, h9, h10⟩ := h
  exact ⟨a, h1, h2, h3, h4, h5, h6, h7, h8, h9, h10.mono hA⟩
theorem Steps.mono {A A' : Hp} {n : Nat} {F : Nat → StepT} {sl : Value} (h : Steps A n F sl) (hA : ∀ z, z < A.n → A'.get z = A.get z) : Steps A' n F sl := by
  obtain ⟨cells, h1, h2⟩ := h
  exact ⟨cells, h1.mono hA, fun i hi => (h2 i hi).mono hA⟩
theorem Steps.ext {A A' : Hp} {n : Nat} {F : Nat → StepT} {sl : Value} (h : Steps A n F sl) (he : Ext' A A') : Steps A' n F sl := h.mono he.2
theorem Steps.len {A : Hp} {n : Nat} {F : Nat → StepT} {sl : Value} (h : Steps A n F sl) : lenV sl = some (.int .i64 n) := by obtain ⟨_, h1, _⟩ := h; exact h1.len
theorem Steps.at {A : Hp} {n i : Nat} {F : Nat → StepT} {sl : Value} (h : Steps A n F sl) (hi : i < n) : ∃ x c ro cells, sl = .slice (some ⟨x, 0, some 7⟩) n c ∧ A.get x = some (.cells cells ro) ∧ cells.length = n * 7 ∧ ∀ j, j < n → StepAt A cells j (F j) := by
  obtain ⟨cells, h1, h2⟩ := h
  obtain ⟨x, c, ro, h3, h4⟩ := h1.at hi
  exact ⟨x, c, ro, cells, h3, h4, h1.1, h2⟩
def aftE (i : Nat) (al : List Int) (k : Nat) : Int := if gi al k < 0 ∨ (i : Int) ≤ gi al k then 4 else if gi al k ∈ al.take k then 2 else 0
def sameN (S : Nat → StepT) (i : Nat) : Bool := (List.range i).any fun k => strEq (S k).name (S i).name
def lastE (s : StepT) : Int := if validB s.tl s.th 0 100000000 = false ∨ s.logs < 0 ∨ 100 < s.logs then 3 else 0
def stpE (S : Nat → StepT) (i : Nat) : Int := if nameB (S i).name = false then 10 else if sameN S i = true then 5 else if firstE (aftE i (S i).al) (S i).an ≠ 0 then firstE (aftE i (S i).al) (S i).an else lastE (S i)
def stepsE (n : Nat) (S : Nat → StepT) : Int := if 32 < n then 9 else firstE (stpE S) n
theorem stpE_a {S : Nat → StepT} {i : Nat} (h : nameB (S i).name = false) : stpE S i = 10 := if_pos h
theorem stpE_b {S : Nat → StepT} {i : Nat} (h : nameB (S i).name = true) (h2 : sameN S i = true) : stpE S i = 5 := by rw [stpE, h, if_neg (by decide), if_pos h2]
theorem stpE_c {S : Nat → StepT} {i : Nat} {e : Int} (h : nameB (S i).name = true) (h2 : sameN S i = false) (h3 : firstE (aftE i (S i).al) (S i).an = e) (he : e ≠ 0) : stpE S i = e := by rw [stpE, h, if_neg (by decide), h2, if_neg (by decide), h3, if_pos he]
theorem stpE_d {S : Nat → StepT} {i : Nat} (h : nameB (S i).name = true) (h2 : sameN S i = false) (h3 : firstE (aftE i (S i).al) (S i).an = 0) : stpE S i = lastE (S i) := by rw [stpE, h, if_neg (by decide), h2, if_neg (by decide), h3, if_neg (by decide)]
section
variable {g : Nat} {rd : Option Nat} {T : List Value} {D : List Nat} {A : Hp} {Q : Ex → St → Prop} {V : Value → Hp → Prop}
theorem mem_take_succ {l : List Int} {i : Nat} {v : Int} (hi : i < l.length) : v ∈ l.take (i + 1) ↔ v ∈ l.take i ∨ v = gi l i := by
  rw [List.take_add_one, List.getElem?_eq_getElem hi, gi_eq hi]
  simp only [Option.toList, List.mem_append, List.mem_singleton]
theorem loop199 {n : Nat} {sl : Value} {al : List Int} {v : Int} (hsl : RdP A 1 n (ints al) sl) (hn : n < 1000000)
    (hin : ∀ T' (i : Nat), v ∈ al.take n → tget T' 4 = .int .i64 i → Q .ret ⟨T', D, A⟩) (hout : ∀ T', v ∉ al.take n → Q (.exit 0) ⟨T', D, A⟩) :
    ∀ (k i : Nat) {T : List Value}, i + k = n → v ∉ al.take i → tget T 0 = sl → tget T 1 = .int .i64 v → tget T 7 = .int .i64 n → tget T 8 = .int .i64 i → W AP KL g rd (.loop body199) ⟨T, D, A⟩ Q := by
  have hl := hsl.1
  rw [ints_length, Nat.mul_one] at hl
  intro k
  induction k with
  | zero =>
    intro i T hik hno h0 h1 h7 h8
    have : i = n := by omega
    subst this
    rw [W_loop]
    simp (disch := as_aux_lemma => first | omega | simp only [hDs] <;> omega | simp [isCell]) [hRs, takeMarks, resA, resAll, resOne, Value.cells, body199, h7, h8]
    exact hout _ hno
  | succ k ih =>
    intro i T hik hno h0 h1 h7 h8
    obtain ⟨x, c, ro, rfl, hx⟩ := hsl.at (i := i) (by omega)
    rw [W_loop]
    by_cases hv : v = gi al i
    · simp (disch := as_aux_lemma => first | omega | simp only [hDs] <;> omega | simp [isCell]) [hRs, takeMarks, resA, resAll, resOne, Value.cells, body199, h7, h8, h0, h1, show ((i : Int) < n) by omega, idxSA_ok, hx, ints_get, hv]
      refine hin _ i ?_ (by simp)
      have := (mem_take_succ (show i < al.length by omega)).2 (.inr hv)
      exact List.mem_of_mem_take (i := i + 1) (by rw [List.take_take, Nat.min_eq_left (by omega)]; exact this)
    · simp (disch := as_aux_lemma => first | omega | simp only [hDs] <;> omega | simp [isCell]) [hRs, takeMarks, resA, resAll, resOne, Value.cells, body199, h7, h8, h0, h1, show ((i : Int) < n) by omega, idxSA_ok, hx, ints_get, hv]
      exact ih (i + 1) (by omega) (fun h => ((mem_take_succ (show i < al.length by omega)).1 h).elim hno hv) (by simp [h0]) (by simp [h1]) (by simp [h7]) (by simp [wrId (n := (i : Int) + 1) (by omega) (by omega)])
theorem w169 {n : Nat} {sl : Value} {al : List Int} {v : Int} (hsl : RdP A 1 n (ints al) sl) (hn : n < 1000000) (hV : V (.bool (decide (v ∈ al.take n))) A) : WF AP KL g 169 [sl, .int .i64 v] A V := by
  rw [WF_body (show KL 169 = none from rfl) (show AP 169 = some F169 from rfl)]
  simp (disch := as_aux_lemma => first | omega | simp only [hDs] <;> omega | simp [isCell]) [hRs, takeMarks, resA, resAll, resOne, Value.cells, F169]
  rw [WF_body (show KL 199 = none from rfl) (show AP 199 = some F199 from rfl)]
  simp (disch := as_aux_lemma => first | omega | simp only [hDs] <;> omega | simp [isCell]) [hRs, takeMarks, resA, resAll, resOne, Value.cells, F199, hsl.len]
  refine loop199 (v := v) (al := al) hsl hn ?_ ?_ n 0 (by omega) (by simp) (by simp) (by simp) (by simp) (by simp)
  · intro T' i hm h4
    simp (disch := as_aux_lemma => first | omega | simp only [hDs] <;> omega | simp [isCell]) [hRs, takeMarks, resA, resAll, resOne, Value.cells, h4]
    rw [decide_eq_true hm] at hV; exact hV
  · intro T' hm
    simp (disch := as_aux_lemma => first | omega | simp only [hDs] <;> omega | simp [isCell]) [hRs, takeMarks, resA, resAll, resOne, Value.cells]
    rw [decide_eq_false hm] at hV; exact hV
theorem says168 {A0 : Hp} {X4 i n : Nat} {cells : List Value} {S : Nat → StepT} {a : Value} {s : StepT} (hX : A0.get X4 = some (.cells (stepC a s) false)) (hin : i ≤ n) (hS : ∀ j, j < n → StepAt A0 cells j (S j)) :
    Says g A0 (.func (.func 168) ⟨[]⟩ ⟨[.pointer (some ⟨X4, 0, none⟩)]⟩) i (fun k => (partA cells (k * 7) (some 7)).getD undef) (fun k => strEq (S k).name s.name) := by
  intro k hk A V he hV
  obtain ⟨b, h1, _⟩ := hS k (by omega)
  have hX' := he.get hX
  have hXn := Hp.lt_of_get hX'
  show WV AP KL g _ [(partA cells (k * 7) (some 7)).getD undef] A V
  rw [h1]
  simp (disch := as_aux_lemma => first | omega | simp only [hDs] <;> omega | simp [isCell]) [hRs, takeMarks, resA, resAll, resOne, Value.cells, stepC]
  rw [WF_body (show KL 168 = none from rfl) (show AP 168 = some F168 from rfl)]
  unfold stepC at hX'
  simp (disch := as_aux_lemma => first | omega | simp only [hDs] <;> omega | simp [isCell]) [hRs, takeMarks, resA, resAll, resOne, Value.cells, F168, hX', strOpA, strA]
  exact hV _ (Ext'.push A _)
end
end Go.Ab.Dike
namespace Go.Ab.Dike
open Go Go.Ab
def body135 : ACode := (.seq
 (.ops [
oB 13 .lss 12 11])
 (.seq
 (.cond (.t 13)
 .skip
 (.exit 0))
 (.seq
 (.block 1
 (.seq
 (.ops [
oM 14 12,
oI 15 10 12 7,
oD 16 15 7,
⟨some 4, none, [], .alloc [.string ⟨⟨[]⟩⟩, .slice none 0 0, .int .i64 0, .int .i64 0, .bool false, .bool false, .int .i64 0]⟩,
oM 3 14,
oT 4 16 7])
 (.seq
 (.block 2
 (.seq
 (.ops [
oF 18 4 0,
oL 19 18,
oA 20 166 [.t 19] false,
oP 21 (.not (.t 20)),
oM 17 21])
 (.cond (.t 17)
 (.seq
 (.ops [
oP 2 (.move (oK 10))])
 .ret)
 (.seq
 (.ops [
oM 23 0,
oM 24 3,
oP 25 (.reslice (.t 23) none (some (.t 24)) 7),
oP 26 (.makeFunc 168 [] [.t 4]),
oA 27 167 [.t 25, .t 26] false,
oM 22 27])
 (.cond (.t 22)
 (.seq
 (.ops [
oP 2 (.move (oK 5))])
 .ret)
 .skip)))))
 (.seq
 (.seq
 (.ops [
oF 28 4 1,
oL 29 28,
oP 30 (.len (.t 29)),
oP 31 (.move (oK 0))])
 (.block 3
 (.loop
 (.seq
 (.ops [
oB 32 .lss 31 30])
 (.seq
 (.cond (.t 32)
 .skip
 (.exit 3))
 (.seq
 (.block 4
 (.seq
 (.ops [
oM 33 31,
oI 34 29 31 1,
oL 35 34,
oM 5 33,
oM 6 35])
 (.block 5
 (.seq
 (.ops [
oM 37 6,
oC 38 .lss 37 0,
oM 39 38,
oN 40 39 false 6,
oN 41 39 false 3,
oQ 42 39 false (.bin .geq (.t 40) (.t 41)),
oP 43 (.pick (.t 39) (.k (.bool true)) (.t 42)),
oM 36 43])
 (.cond (.t 36)
 (.seq
 (.ops [
oP 2 (.move (oK 4))])
 .ret)
 (.seq
 (.ops [
oF 45 4 1,
oL 46 45,
oM 47 5,
oP 48 (.reslice (.t 46) none (some (.t 47)) 1),
oM 49 6,
oA 50 169 [.t 48, .t 49] false,
oM 44 50])
 (.cond (.t 44)
 (.seq
 (.ops [
oP 2 (.move (oK 2))])
 .ret)
 .skip)))))))
 (.ops [
oC 51 .add 31 1,
oM 31 51])))))))
 (.seq
 (.ops [
oF 52 4 2,
oD 53 52 2,
oA 54 160 [.t 53, .k (.int .i64 0), .k (.int .i64 100000000)] false,
oP 55 (.not (.t 54)),
oM 56 55,
oQ 57 56 false (.fieldAddr (.t 4) 6),
oQ 58 56 false (.load (.t 57) none),
oQ 59 56 false (.bin .lss (.t 58) (oK 0)),
oP 60 (.pick (.t 56) (.k (.bool true)) (.t 59)),
oM 61 60,
oQ 62 61 false (.fieldAddr (.t 4) 6),
oQ 63 61 false (.load (.t 62) none),
oQ 64 61 false (.bin .gtr (.t 63) (oK 100)),
oP 65 (.pick (.t 61) (.k (.bool true)) (.t 64))])
 (.cond (.t 65)
 (.seq
 (.ops [
oP 2 (.move (oK 3))])
 .ret)
 .skip))))))
 (.ops [
oC 66 .add 12 1,
oM 12 66]))))
theorem aftE_a {i : Nat} {al : List Int} {k : Nat} (h : gi al k < 0 ∨ (i : Int) ≤ gi al k) : aftE i al k = 4 := if_pos h
theorem aftE_b {i : Nat} {al : List Int} {k : Nat} (h : ¬ (gi al k < 0 ∨ (i : Int) ≤ gi al k)) (h2 : gi al k ∈ al.take k) : aftE i al k = 2 := by rw [aftE, if_neg h, if_pos h2]
theorem aftE_c {i : Nat} {al : List Int} {k : Nat} (h : ¬ (gi al k < 0 ∨ (i : Int) ≤ gi al k)) (h2 : gi al k ∉ al.take k) : aftE i al k = 0 := by rw [aftE, if_neg h, if_neg h2]
section
variable {g : Nat} {rd : Option Nat} {T : List Value} {D : List Nat} {A : Hp} {Q : Ex → St → Prop} {V : Value → Hp → Prop}
theorem loop135i {X4 i : Nat} {a : Value} {s : StepT} (ha : RdS A 1 s.an (ints s.al) a) (hX : A.get X4 = some (.cells (stepC a s) false)) (hn : s.an < 1000000)
    (herr : ∀ T' e, firstE (aftE i s.al) s.an = e → e ≠ 0 → tget T' 2 = .int .i64 e → Q .ret ⟨T', D, A⟩) (hend : ∀ T', firstE (aftE i s.al) s.an = 0 → KeepT [0, 3, 4, 10, 11, 12] T T' → Q (.exit 3) ⟨T', D, A⟩)
    (t3 : tget T 3 = .int .i64 i) (t4 : tget T 4 = .pointer (some ⟨X4, 0, none⟩)) :
    ∀ (k j : Nat) {T1 : List Value}, j + k = s.an → firstE (aftE i s.al) j = 0 → KeepT [0, 3, 4, 10, 11, 12] T T1 → tget T1 29 = a → tget T1 30 = .int .i64 s.an → tget T1 31 = .int .i64 j → W AP KL g rd (.loop body135i) ⟨T1, D, A⟩ Q := by
  have hl := ha.1
  rw [ints_length, Nat.mul_one] at hl
  intro k
  induction k with
  | zero =>
    intro j T1 hik hok hk t29 t30 t31
    have : j = s.an := by omega
    subst this
    rw [W_loop]
    simp (disch := as_aux_lemma => first | omega | simp only [hDs] <;> omega | simp [isCell]) [hRs, takeMarks, resA, resAll, resOne, Value.cells, body135i, t30, t31]
    exact hend _ hok (hk.trans (by simp))
  | succ k ih =>
    intro j T1 hik hok hk t29 t30 t31
    have u3 := (hk.at 3 rfl).trans t3
    have u4 := (hk.at 4 rfl).trans t4
    obtain ⟨y, c, ro, rfl, hy⟩ := ha.at (i := j) (by omega)
    have hX' := hX
    unfold stepC at hX'
    obtain ⟨v, hv⟩ : ∃ v, v = gi s.al j := ⟨_, rfl⟩
    have hyv : cellAt (ints s.al) j = some (.int .i64 v) := by rw [hv]; exact ints_get (by omega)
    have hlt : (j : Int) < s.an := by omega
    obtain ⟨n, hne⟩ : ∃ n, n = s.an := ⟨_, rfl⟩
    rw [← hne] at t29 t30 hX' hlt
    rw [W_loop]
    by_cases c1 : v < 0
    · simp (disch := as_aux_lemma => first | omega | simp only [hDs] <;> omega | simp [isCell]) [hRs, takeMarks, resA, resAll, resOne, Value.cells, body135i, u3, u4, t29, t30, t31, hlt, idxSA_ok, hy, hyv, c1]
      exact herr _ 4 (firstE_at hok (by omega) (aftE_a (.inl (by rw [← hv]; exact c1))) (by decide)) (by decide) (by simp)
    · by_cases c2 : (i : Int) ≤ v
      · simp (disch := as_aux_lemma => first | omega | simp only [hDs] <;> omega | simp [isCell]) [hRs, takeMarks, resA, resAll, resOne, Value.cells, body135i, u3, u4, t29, t30, t31, hlt, idxSA_ok, hy, hyv, c1, c2]
        exact herr _ 4 (firstE_at hok (by omega) (aftE_a (.inr (by rw [← hv]; exact c2))) (by decide)) (by decide) (by simp)
      · have hno : ¬ (gi s.al j < 0 ∨ (i : Int) ≤ gi s.al j) := by rw [← hv]; omega
        simp (disch := as_aux_lemma => first | omega | simp only [hDs] <;> omega | simp [isCell]) [hRs, takeMarks, resA, resAll, resOne, Value.cells, body135i, u3, u4, t29, t30, t31, hlt, idxSA_ok, hy, hyv, c1, c2, hX', intOfA, boundA, resl_some (show j ≤ n by omega)]
        refine w169 (n := j) (al := s.al) ⟨by rw [ints_length]; omega, .inr ⟨y, _, ro, rfl, hy⟩⟩ (by omega) ?_
        by_cases c3 : v ∈ s.al.take j
        · simp (disch := as_aux_lemma => first | omega | simp only [hDs] <;> omega | simp [isCell]) [hRs, takeMarks, resA, resAll, resOne, Value.cells, c3]
          exact herr _ 2 (firstE_at hok (by omega) (aftE_b hno (by rw [← hv]; exact c3)) (by decide)) (by decide) (by simp)
        · simp (disch := as_aux_lemma => first | omega | simp only [hDs] <;> omega | simp [isCell]) [hRs, takeMarks, resA, resAll, resOne, Value.cells, c3, t31]
          exact ih (j + 1) (by omega) (firstE_next hok (aftE_c hno (by rw [← hv]; exact c3))) (hk.trans (by simp)) (by simp [t29, hne]) (by simp [t30, hne]) (by simp [wrId (n := (j : Int) + 1) (by omega) (by omega)])
theorem loop135 {A0 : Hp} {n : Nat} {S : Nat → StepT} {sl : Value} (hsl : Steps A0 n S sl) (hn : n ≤ 32) (hS : ∀ i, i < n → (S i).name.size < 1000000 ∧ (S i).an < 1000000) (hg : g ≤ A0.n)
    (herr : ∀ T' A' e, firstE (stpE S) n = e → e ≠ 0 → Ext' A0 A' → tget T' 2 = .int .i64 e → Q .ret ⟨T', D, A'⟩) (hend : ∀ T' A', firstE (stpE S) n = 0 → Ext' A0 A' → Q (.exit 0) ⟨T', D, A'⟩) :
    ∀ (k i : Nat) {T1 : List Value} {A : Hp}, i + k = n → firstE (stpE S) i = 0 → Ext' A0 A → tget T1 0 = sl → tget T1 10 = sl → tget T1 11 = .int .i64 n → tget T1 12 = .int .i64 i → W AP KL g rd (.loop body135) ⟨T1, D, A⟩ Q := by
  intro k
  induction k with
  | zero =>
    intro i T1 A hik hok he t0 t10 t11 t12
    have : i = n := by omega
    subst this
    rw [W_loop]
    simp (disch := as_aux_lemma => first | omega | simp only [hDs] <;> omega | simp [isCell]) [hRs, takeMarks, resA, resAll, resOne, Value.cells, body135, t11, t12]
    exact hend _ A hok he
  | succ k ih =>
    intro i T1 A hik hok he t0 t10 t11 t12
    obtain ⟨x, c, ro, cells, rfl, hx, hcl, hat⟩ := (hsl.ext he).at (i := i) (by omega)
    obtain ⟨a, p1, p2, p3, p4, p5, p6, p7, p8, p9, ra⟩ := hat i (by omega)
    have hgA := Nat.le_trans hg he.1
    obtain ⟨s, hs⟩ : ∃ s, s = S i := ⟨_, rfl⟩
    have hSi := hS i (by omega)
    rw [← hs] at p1 ra hSi
    have eP := Ext'.push A (.cells (stepC a s) false)
    obtain ⟨B, hB⟩ : ∃ B, B = A.push (.cells (stepC a s) false) := ⟨_, rfl⟩
    rw [← hB] at eP
    have hBn : B.n = A.n + 1 := by rw [hB]; rfl
    have hX : B.get A.n = some (.cells (stepC a s) false) := by rw [hB, get_push_new]
    have hB' : A.push (.cells [.string s.name, a, .int .i64 s.tl, .int .i64 s.th, .bool s.calm, .bool s.clear, .int .i64 s.logs] false) = B := hB.symm
    have hX' : B.get A.n = some (.cells [.string s.name, a, .int .i64 s.tl, .int .i64 s.th, .bool s.calm, .bool s.clear, .int .i64 s.logs] false) := hX
    obtain ⟨pa, na, rfl⟩ := ra.isSlice
    have hxB := eP.get hx
    rw [W_loop]
    simp (disch := as_aux_lemma => first | omega | simp only [hDs] <;> omega | simp [isCell]) [hRs, takeMarks, resA, resAll, resOne, Value.cells, body135, t0, t10, t11, t12, show ((i : Int) < n) by omega, idxSA_ok, hx, p1, stepC, storeB_cells, setRange, set_push_eq, hB', hX']
    refine w166 hSi.1 fun A1 e1 => ?_
    have e01 := he.trans (eP.trans e1)
    have hX1 := e1.get hX
    have hX1' := e1.get hX'
    cases c1 : nameB s.name with
    | false =>
      simp (disch := as_aux_lemma => first | omega | simp only [hDs] <;> omega | simp [isCell]) [hRs, takeMarks, resA, resAll, resOne, Value.cells]
      exact herr _ _ 10 (firstE_at hok (by omega) (stpE_a (by rw [← hs]; exact c1)) (by decide)) (by decide) e01 (by simp)
    | true =>
      simp (disch := as_aux_lemma => first | omega | simp only [hDs] <;> omega | simp [isCell]) [hRs, takeMarks, resA, resAll, resOne, Value.cells, t0, intOfA, boundA, resl_some (show i ≤ n by omega)]
      refine w167 (row := cells) (p := fun k => strEq (S k).name s.name) ⟨by omega, .inr ⟨x, _, ro, rfl, e1.get hxB⟩⟩ (fun j hj => ?_) (says168 (n := n) (cells := cells) (S := S) hX1 (by omega) fun j hj => ((hat j hj).mono eP.2).mono e1.2) (by omega) fun A2 e2 => ?_
      · obtain ⟨b, h1, _⟩ := hat j (by omega)
        rw [h1]; rfl
      have hsame : (List.range i).any (fun k => strEq (S k).name s.name) = sameN S i := by rw [hs]; rfl
      have e02 := e01.trans e2
      have hX2 := e2.get hX1
      have hX2' := e2.get hX1'
      rw [hsame]
      cases c2 : sameN S i with
      | true =>
        simp (disch := as_aux_lemma => first | omega | simp only [hDs] <;> omega | simp [isCell]) [hRs, takeMarks, resA, resAll, resOne, Value.cells]
        exact herr _ _ 5 (firstE_at hok (by omega) (stpE_b (by rw [← hs]; exact c1) c2) (by decide)) (by decide) e02 (by simp)
      | false =>
        have ra2 := (eP.trans (e1.trans e2)).rdS ra
        simp (disch := as_aux_lemma => first | omega | simp only [hDs] <;> omega | simp [isCell]) [hRs, takeMarks, resA, resAll, resOne, Value.cells, hX2', ra2.len]
        refine loop135i (X4 := A.n) (i := i) (s := s) ra2 hX2 hSi.2 ?_ ?_ (T := _) ?_ ?_ s.an 0 (by omega) rfl (fun _ _ => rfl) (by simp) (by simp) (by simp)
        · intro T' e hee hne t2
          simp (disch := as_aux_lemma => first | omega | simp only [hDs] <;> omega | simp [isCell]) [hRs, takeMarks, resA, resAll, resOne, Value.cells]
          exact herr _ _ e (firstE_at hok (by omega) (stpE_c (by rw [← hs]; exact c1) c2 (by rw [← hs]; exact hee) hne) hne) hne e02 t2
        · intro T' hz hk
          have hlast : stpE S i = lastE s := by rw [hs]; exact stpE_d (by rw [← hs]; exact c1) c2 (by rw [← hs]; exact hz)
          have v0 := hk.at 0 rfl
          have v4 := hk.at 4 rfl
          have v10 := hk.at 10 rfl
          have v11 := hk.at 11 rfl
          have v12 := hk.at 12 rfl
          simp [t0, t10, t11, t12] at v0 v4 v10 v11 v12
          simp (disch := as_aux_lemma => first | omega | simp only [hDs] <;> omega | simp [isCell]) [hRs, takeMarks, resA, resAll, resOne, Value.cells, v4, hX2']
          refine w160 fun A3 n3 o3 => ?_
          have e3 : Ext' A2 A3 := ⟨by omega, o3⟩
          have hX3' := e3.get hX2'
          have bad : lastE s = 3 → ∀ T', tget T' 2 = .int .i64 3 → Q .ret ⟨T', D, A3⟩ := fun h T' t2 => herr _ _ 3 (firstE_at hok (by omega) (by rw [hlast, h]) (by decide)) (by decide) (e02.trans e3) t2
          cases c3 : validB s.tl s.th 0 100000000 with
          | false =>
            simp (disch := as_aux_lemma => first | omega | simp only [hDs] <;> omega | simp [isCell]) [hRs, takeMarks, resA, resAll, resOne, Value.cells]
            exact bad (by simp [lastE, c3]) _ (by simp)
          | true =>
            by_cases c4 : s.logs < 0
            · simp (disch := as_aux_lemma => first | omega | simp only [hDs] <;> omega | simp [isCell]) [hRs, takeMarks, resA, resAll, resOne, Value.cells, v4, hX3', c4]
              exact bad (by simp [lastE, c4]) _ (by simp)
            · by_cases c5 : 100 < s.logs
              · simp (disch := as_aux_lemma => first | omega | simp only [hDs] <;> omega | simp [isCell]) [hRs, takeMarks, resA, resAll, resOne, Value.cells, v4, hX3', c4, c5]
                exact bad (by simp [lastE, c5]) _ (by simp)
              · simp (disch := as_aux_lemma => first | omega | simp only [hDs] <;> omega | simp [isCell]) [hRs, takeMarks, resA, resAll, resOne, Value.cells, v4, hX3', v12, c4, c5]
                exact ih (i + 1) (by omega) (firstE_next hok (by rw [hlast]; simp [lastE, c3]; omega)) (e02.trans e3) (by simp [v0]) (by simp [v10]) (by simp [v11]) (by simp [wrId (n := (i : Int) + 1) (by omega) (by omega)])
        · simp
        · simp
theorem w135 {n : Nat} {S : Nat → StepT} {sl : Value} (hsl : Steps A n S sl) (hn : n < 1000000) (hS : ∀ i, i < n → (S i).name.size < 1000000 ∧ (S i).an < 1000000) (hg : g ≤ A.n) (hV : ∀ A', Ext' A A' → V (.int .i64 (stepsE n S)) A') : WF AP KL g 135 [sl] A V := by
  rw [WF_body (show KL 135 = none from rfl) (show AP 135 = some F135 from rfl)]
  by_cases c1 : (32 : Int) < n
  · have : stepsE n S = 9 := if_pos (by omega)
    simp (disch := as_aux_lemma => first | omega | simp only [hDs] <;> omega | simp [isCell]) [hRs, takeMarks, resA, resAll, resOne, Value.cells, F135, hsl.len, c1]
    rw [← this]; exact hV _ (Ext'.refl _)
  · have hE : stepsE n S = firstE (stpE S) n := if_neg (by omega)
    simp (disch := as_aux_lemma => first | omega | simp only [hDs] <;> omega | simp [isCell]) [hRs, takeMarks, resA, resAll, resOne, Value.cells, F135, hsl.len, c1]
    refine loop135 hsl (by omega) hS hg ?_ ?_ n 0 (by omega) rfl (Ext'.refl _) (by simp) (by simp) (by simp) (by simp)
    · intro T' A' e he hne ee t2
      simp (disch := as_aux_lemma => first | omega | simp only [hDs] <;> omega | simp [isCell]) [hRs, takeMarks, resA, resAll, resOne, Value.cells, t2]
      rw [← he, ← hE]; exact hV _ ee
    · intro T' A' he ee
      simp (disch := as_aux_lemma => first | omega | simp only [hDs] <;> omega | simp [isCell]) [hRs, takeMarks, resA, resAll, resOne, Value.cells]
      rw [← he, ← hE]; exact hV _ ee
end
end Go.Ab.Dike
namespace Go.Ab.Dike
open Go Go.Ab
section
variable {g : Nat} {rd : Option Nat} {T : List Value} {D : List Nat} {A : Hp} {Q : Ex → St → Prop} {V : Value → Hp → Prop}
end
end Go.Ab.Dike
namespace Go.Ab.Dike
open Go Go.Ab
def never : Int := 1099511627776
def slotAt (r t : Int) (ws : List Int) (i : Nat) : Int := wr .i64 (max r (gi ws (i * 2)) + t)
def slotV (r t : Int) (ws : List Int) : Nat → Nat → Int
  | 0, _ => never
  | k + 1, i => if slotAt r t ws i ≤ gi ws (i * 2 + 1) then slotAt r t ws i else slotV r t ws k (i + 1)
def endV (r t : Int) (calm : Bool) (ws : List Int) (nw : Nat) : Int := if r = never then never else if calm then slotV r t ws nw 0 else wr .i64 (r + t)
def winE (ws : List Int) (i : Nat) : Int := if validB (gi ws (i * 2)) (gi ws (i * 2 + 1)) 0 1000000000 = false then 3 else if 0 < i ∧ gi ws (i * 2) ≤ gi ws ((i - 1) * 2 + 1) then 2 else 0
theorem winE_a {ws : List Int} {i : Nat} (h : validB (gi ws (i * 2)) (gi ws (i * 2 + 1)) 0 1000000000 = false) : winE ws i = 3 := if_pos h
theorem winE_b {ws : List Int} {i : Nat} (h : validB (gi ws (i * 2)) (gi ws (i * 2 + 1)) 0 1000000000 = true) (h2 : 0 < i ∧ gi ws (i * 2) ≤ gi ws ((i - 1) * 2 + 1)) : winE ws i = 2 := by rw [winE, h, if_neg (by decide), if_pos h2]
theorem winE_c {ws : List Int} {i : Nat} (h : validB (gi ws (i * 2)) (gi ws (i * 2 + 1)) 0 1000000000 = true) (h2 : ¬ (0 < i ∧ gi ws (i * 2) ≤ gi ws ((i - 1) * 2 + 1))) : winE ws i = 0 := by rw [winE, h, if_neg (by decide), if_neg h2]
section
variable {g : Nat} {rd : Option Nat} {T : List Value} {D : List Nat} {A : Hp} {Q : Ex → St → Prop} {V : Value → Hp → Prop}
theorem w163 {a b c d : Int} (hg : g ≤ A.n) (hV : ∀ A', Ext' A A' → V (.agg ⟨[.int .i64 (max a c), .int .i64 (max b d)]⟩) A') : WF AP KL g 163 [.agg ⟨[.int .i64 a, .int .i64 b]⟩, .agg ⟨[.int .i64 c, .int .i64 d]⟩] A V := by
  rw [WF_body (show KL 163 = none from rfl) (show AP 163 = some F163 from rfl)]
  simp (disch := as_aux_lemma => first | omega | simp only [hDs] <;> omega | simp [isCell]) [hRs, takeMarks, resA, resAll, resOne, Value.cells, F163, fillA, setRange, storeB_cells, set_push_eq]
  exact hV _ (((Ext'.push A _).trans (Ext'.push _ _)).trans (Ext'.push _ _))
theorem loop197 {A0 : Hp} {n : Nat} {ws : List Int} {sl : Value} {r t : Int} (hsl : RdS A0 2 n (ints ws) sl) (hn : n < 1000000) (hg : g ≤ A0.n)
    (hin : ∀ T' A', Ext' A0 A' → tget T' 6 = .int .i64 (slotV r t ws n 0) → Q .ret ⟨T', D, A'⟩) (hout : ∀ T' A', slotV r t ws n 0 = never → Ext' A0 A' → Q (.exit 0) ⟨T', D, A'⟩) :
    ∀ (k i : Nat) {T : List Value} {A : Hp}, i + k = n → slotV r t ws n 0 = slotV r t ws k i → Ext' A0 A → tget T 0 = .int .i64 r → tget T 1 = .int .i64 t → tget T 10 = sl → tget T 11 = .int .i64 n → tget T 12 = .int .i64 i → W AP KL g rd (.loop body197) ⟨T, D, A⟩ Q := by
  have hl := hsl.1
  rw [ints_length] at hl
  intro k
  induction k with
  | zero =>
    intro i T A hik hs he t0 t1 t10 t11 t12
    have : i = n := by omega
    subst this
    rw [W_loop]
    simp (disch := as_aux_lemma => first | omega | simp only [hDs] <;> omega | simp [isCell]) [hRs, takeMarks, resA, resAll, resOne, Value.cells, body197, t11, t12]
    exact hout _ A hs he
  | succ k ih =>
    intro i T A hik hs he t0 t1 t10 t11 t12
    obtain ⟨x, c, ro, rfl, hx⟩ := (he.rdS hsl).at (i := i) (by omega)
    have hgA := Nat.le_trans hg he.1
    have eP := he.trans (Ext'.push A (.cells [.int .i64 (gi ws (i * 2)), .int .i64 (gi ws (i * 2 + 1))] false))
    have hstep : slotV r t ws (k + 1) i = if slotAt r t ws i ≤ gi ws (i * 2 + 1) then slotAt r t ws i else slotV r t ws k (i + 1) := rfl
    rw [W_loop]
    by_cases h : wr .i64 (max r (gi ws (i * 2)) + t) ≤ gi ws (i * 2 + 1)
    · simp (disch := as_aux_lemma => first | omega | simp only [hDs] <;> omega | simp [isCell]) [hRs, takeMarks, resA, resAll, resOne, Value.cells, body197, t0, t1, t10, t11, t12, show ((i : Int) < n) by omega, idxSA_ok, hx, ints_two, storeB_cells, setRange, set_push_eq, h]
      refine hin _ _ eP ?_
      rw [hs, hstep, if_pos (show slotAt r t ws i ≤ _ from h)]
      simp [slotAt]
    · simp (disch := as_aux_lemma => first | omega | simp only [hDs] <;> omega | simp [isCell]) [hRs, takeMarks, resA, resAll, resOne, Value.cells, body197, t0, t1, t10, t11, t12, show ((i : Int) < n) by omega, idxSA_ok, hx, ints_two, storeB_cells, setRange, set_push_eq, h]
      exact ih (i + 1) (by omega) (by rw [hs, hstep, if_neg (show ¬ slotAt r t ws i ≤ _ from h)]) eP (by simp [t0]) (by simp [t1]) (by simp [t10]) (by simp [t11]) (by simp [wrId (n := (i : Int) + 1) (by omega) (by omega)])
theorem w197 {n : Nat} {ws : List Int} {sl : Value} {r t : Int} (hsl : RdS A 2 n (ints ws) sl) (hn : n < 1000000) (hg : g ≤ A.n) (hV : ∀ A', Ext' A A' → V (.int .i64 (slotV r t ws n 0)) A') : WF AP KL g 197 [.int .i64 r, .int .i64 t, sl] A V := by
  rw [WF_body (show KL 197 = none from rfl) (show AP 197 = some F197 from rfl)]
  simp (disch := as_aux_lemma => first | omega | simp only [hDs] <;> omega | simp [isCell]) [hRs, takeMarks, resA, resAll, resOne, Value.cells, F197, hsl.len]
  refine loop197 (r := r) (t := t) hsl hn hg ?_ ?_ n 0 (by omega) rfl (Ext'.refl _) (by simp) (by simp) (by simp) (by simp) (by simp)
  · intro T' A' he t6
    simp (disch := as_aux_lemma => first | omega | simp only [hDs] <;> omega | simp [isCell]) [hRs, takeMarks, resA, resAll, resOne, Value.cells, t6]
    exact hV A' he
  · intro T' A' hs he
    simp (disch := as_aux_lemma => first | omega | simp only [hDs] <;> omega | simp [isCell]) [hRs, takeMarks, resA, resAll, resOne, Value.cells]
    have := hV A' he
    rw [hs] at this; exact this
theorem w164 {n : Nat} {ws : List Int} {sl : Value} {r t : Int} {a : Value} {s : StepT} (hsl : RdS A 2 n (ints ws) sl) (hn : n < 1000000) (hg : g ≤ A.n) (hV : ∀ A', Ext' A A' → V (.int .i64 (endV r t s.calm ws n)) A') : WF AP KL g 164 [.agg ⟨stepC a s⟩, .int .i64 r, .int .i64 t, sl] A V := by
  rw [WF_body (show KL 164 = none from rfl) (show AP 164 = some F164 from rfl)]
  have eP := Ext'.push A (.cells (stepC a s) false)
  by_cases h1 : r = 1099511627776
  · have : endV r t s.calm ws n = never := if_pos h1
    simp (disch := as_aux_lemma => first | omega | simp only [hDs] <;> omega | simp [isCell]) [hRs, takeMarks, resA, resAll, resOne, Value.cells, F164, stepC, h1]
    have hv := hV _ eP
    rw [this] at hv; exact hv
  · cases hc : s.calm with
    | true =>
      have : endV r t s.calm ws n = slotV r t ws n 0 := by rw [endV, if_neg (show ¬ r = never from h1), hc]; rfl
      simp (disch := as_aux_lemma => first | omega | simp only [hDs] <;> omega | simp [isCell]) [hRs, takeMarks, resA, resAll, resOne, Value.cells, F164, stepC, h1, hc]
      refine w197 hsl.push hn (by simp; omega) fun A1 e1 => ?_
      simp (disch := as_aux_lemma => first | omega | simp only [hDs] <;> omega | simp [isCell]) [hRs, takeMarks, resA, resAll, resOne, Value.cells]
      have hv := hV A1 ((Ext'.push A _).trans e1)
      rw [this] at hv; exact hv
    | false =>
      have : endV r t s.calm ws n = wr .i64 (r + t) := by rw [endV, if_neg (show ¬ r = never from h1), hc]; rfl
      simp (disch := as_aux_lemma => first | omega | simp only [hDs] <;> omega | simp [isCell]) [hRs, takeMarks, resA, resAll, resOne, Value.cells, F164, stepC, h1, hc]
      have hv := hV _ (Ext'.push A (.cells [.string s.name, a, .int .i64 s.tl, .int .i64 s.th, .bool false, .bool s.clear, .int .i64 s.logs] false))
      rw [this] at hv; exact hv
def zSpan : ABlk := .cells [.int .i64 0, .int .i64 0] false
theorem loop133w {A0 : Hp} {X7 n : Nat} {ws : List Int} {sl : Value} (hsl : RdS A0 2 n (ints ws) sl) (hn : n < 1000000) (h7 : A0.get X7 = some zSpan) (hg : g ≤ X7)
    (herr : ∀ T' A' e, firstE (winE ws) n = e → e ≠ 0 → But X7 A0 A' → A'.get X7 = some zSpan → tget T' 6 = .slice none 0 0 → tget T' 7 = .pointer (some ⟨X7, 0, none⟩) → tget T' 8 = .int .i64 e → Q .ret ⟨T', D, A'⟩)
    (hend : ∀ T' A', firstE (winE ws) n = 0 → Ext' A0 A' → KeepT [0, 2, 4, 7] T T' → Q (.exit 1) ⟨T', D, A'⟩) (t2 : tget T 2 = sl) (t7 : tget T 7 = .pointer (some ⟨X7, 0, none⟩)) :
    ∀ (k i : Nat) {T1 : List Value} {A : Hp}, i + k = n → firstE (winE ws) i = 0 → Ext' A0 A → KeepT [0, 2, 4, 7] T T1 → tget T1 36 = sl → tget T1 37 = .int .i64 n → tget T1 38 = .int .i64 i → W AP KL g rd (.loop body133w) ⟨T1, D, A⟩ Q := by
  have hl := hsl.1
  rw [ints_length] at hl
  intro k
  induction k with
  | zero =>
    intro i T1 A hik hok he hk t36 t37 t38
    have : i = n := by omega
    subst this
    rw [W_loop]
    simp (disch := as_aux_lemma => first | omega | simp only [hDs] <;> omega | simp [isCell]) [hRs, takeMarks, resA, resAll, resOne, Value.cells, body133w, t37, t38]
    exact hend _ A hok he (hk.trans (by simp))
  | succ k ih =>
    intro i T1 A hik hok he hk t36 t37 t38
    have u2 := (hk.at 2 rfl).trans t2
    have u7 := (hk.at 7 rfl).trans t7
    obtain ⟨x, c, ro, rfl, hx⟩ := (he.rdS hsl).at (i := i) (by omega)
    have hxn := Hp.lt_of_get hx
    have g7 := he.get h7
    have h7n := Hp.lt_of_get h7
    have hA0 := he.1
    obtain ⟨lo, hlo⟩ : ∃ lo, lo = gi ws (i * 2) := ⟨_, rfl⟩
    obtain ⟨hi, hhi⟩ : ∃ hi, hi = gi ws (i * 2 + 1) := ⟨_, rfl⟩
    have hp : partA (ints ws) (i * 2) (some 2) = some (.agg ⟨[.int .i64 lo, .int .i64 hi]⟩) := by rw [hlo, hhi]; exact ints_two (by omega)
    rw [W_loop]
    simp (disch := as_aux_lemma => first | omega | simp only [hDs] <;> omega | simp [isCell]) [hRs, takeMarks, resA, resAll, resOne, Value.cells, body133w, t36, t37, t38, show ((i : Int) < n) by omega, idxSA_ok, hx, hp, storeB_cells, setRange, set_push_eq]
    refine w160 fun A1 n1 o1 => ?_
    have e0 := Ext'.push A (.cells [.int .i64 lo, .int .i64 hi] false)
    have e1 := e0.trans (show Ext' _ A1 from ⟨by omega, o1⟩)
    have g71 := e1.get g7
    have hx1 := e1.get hx
    have gX := o1 A.n (by simp)
    rw [get_push_new] at gX
    have hXn := Hp.lt_of_get gX
    cases c1 : validB lo hi 0 1000000000 with
    | false =>
      simp (disch := as_aux_lemma => first | omega | simp only [hDs] <;> omega | simp [isCell]) [hRs, takeMarks, resA, resAll, resOne, Value.cells, u7, fillA, g71, zSpan, storeB_cells, setRange]
      exact herr _ _ 3 (firstE_at hok (by omega) (winE_a (by rw [← hlo, ← hhi]; exact c1)) (by decide)) (by decide) (But.trans (But.of_ext he) (But.set (by omega) e1)) (get_set_same g71) (by simp) (by simp [u7]) (by simp)
    | true =>
      by_cases c2 : 0 < i
      · have e3 := wrId (n := (i : Int) - 1) (by omega) (by omega)
        have hq := ints_get (l := ws) (o := (i - 1) * 2 + 1) (by omega)
        obtain ⟨j, hj⟩ : ∃ j, i = j + 1 := ⟨i - 1, by omega⟩
        subst hj
        simp only [Nat.add_sub_cancel] at hq
        have e4 : ((j + 1 : Nat) : Int) - 1 = j := by omega
        rw [e4] at e3
        by_cases c3 : lo ≤ gi ws (j * 2 + 1)
        · simp (disch := as_aux_lemma => first | omega | simp only [hDs] <;> omega | simp [isCell]) [hRs, takeMarks, resA, resAll, resOne, Value.cells, u2, u7, gX, hx1, e3, idxSA_ok, hq, c3, fillA, g71, zSpan, storeB_cells, setRange]
          exact herr _ _ 2 (firstE_at hok (by omega) (winE_b (by rw [← hlo, ← hhi]; exact c1) ⟨by omega, by rw [← hlo]; exact c3⟩) (by decide)) (by decide) (But.trans (But.of_ext he) (But.set (by omega) e1)) (get_set_same g71) (by simp) (by simp [u7]) (by simp)
        · simp (disch := as_aux_lemma => first | omega | simp only [hDs] <;> omega | simp [isCell]) [hRs, takeMarks, resA, resAll, resOne, Value.cells, u2, u7, gX, hx1, e3, idxSA_ok, hq, c3, t38]
          exact ih (j + 1 + 1) (by omega) (firstE_next hok (winE_c (by rw [← hlo, ← hhi]; exact c1) (by rw [← hlo]; simp; omega))) (he.trans e1) (hk.trans (by simp)) (by simp [t36]) (by simp [t37]) (by simp; exact wrId (by omega) (by omega))
      · have : i = 0 := by omega
        subst this
        simp (disch := as_aux_lemma => first | omega | simp only [hDs] <;> omega | simp [isCell]) [hRs, takeMarks, resA, resAll, resOne, Value.cells, t38]
        exact ih 1 (by omega) (firstE_next hok (winE_c (by rw [← hlo, ← hhi]; exact c1) (by omega))) (he.trans e1) (hk.trans (by simp)) (by simp [t36]) (by simp [t37]) (by simp; decide)
end
end Go.Ab.Dike
namespace Go.Ab.Dike
open Go Go.Ab
def readyS (E : List Int) (b : Int × Int) (al : List Int) : Nat → Int × Int
  | 0 => b
  | k + 1 => (max (if k = 0 then gi E ((gi al k).toNat * 2) else (readyS E b al k).1) (gi E ((gi al k).toNat * 2)), max (if k = 0 then gi E ((gi al k).toNat * 2 + 1) else (readyS E b al k).2) (gi E ((gi al k).toNat * 2 + 1)))
def endS (E : List Int) (b : Int × Int) (s : StepT) (ws : List Int) (nw : Nat) : Int × Int :=
  (endV (readyS E b s.al s.an).1 s.tl s.calm ws nw, endV (readyS E b s.al s.an).2 s.th s.calm ws nw)
def endsL (S : Nat → StepT) (b : Int × Int) (ws : List Int) (nw : Nat) : Nat → List Int
  | 0 => []
  | i + 1 => endsL S b ws nw i ++ [(endS (endsL S b ws nw i) b (S i) ws nw).1, (endS (endsL S b ws nw i) b (S i) ws nw).2]
def allS (S : Nat → StepT) (b : Int × Int) (ws : List Int) (nw : Nat) : Nat → Int × Int
  | 0 => b
  | i + 1 => (max (allS S b ws nw i).1 (endS (endsL S b ws nw i) b (S i) ws nw).1, max (allS S b ws nw i).2 (endS (endsL S b ws nw i) b (S i) ws nw).2)
theorem endsL_length (S : Nat → StepT) (b : Int × Int) (ws : List Int) (nw : Nat) : ∀ i, (endsL S b ws nw i).length = i * 2
  | 0 => rfl
  | i + 1 => by simp [endsL, endsL_length S b ws nw i]; omega
def closeE (n : Nat) (S : Nat → StepT) (b : Int × Int) (nw : Nat) (ws : List Int) : Int :=
  if stepsE n S ≠ 0 then stepsE n S else if validB b.1 b.2 0 1000000000 = false then 3 else if 1000 < nw then 9 else firstE (winE ws) nw
theorem closeE_a {n : Nat} {S : Nat → StepT} {b : Int × Int} {nw : Nat} {ws : List Int} (h : stepsE n S ≠ 0) : closeE n S b nw ws = stepsE n S := if_pos h
theorem closeE_b {n : Nat} {S : Nat → StepT} {b : Int × Int} {nw : Nat} {ws : List Int} (h : stepsE n S = 0) (h2 : validB b.1 b.2 0 1000000000 = false) : closeE n S b nw ws = 3 := by rw [closeE, if_neg (fun h' => h' h), if_pos h2]
theorem closeE_c {n : Nat} {S : Nat → StepT} {b : Int × Int} {nw : Nat} {ws : List Int} (h : stepsE n S = 0) (h2 : validB b.1 b.2 0 1000000000 = true) (h3 : 1000 < nw) : closeE n S b nw ws = 9 := by rw [closeE, if_neg (fun h' => h' h), h2, if_neg (by decide), if_pos h3]
theorem closeE_d {n : Nat} {S : Nat → StepT} {b : Int × Int} {nw : Nat} {ws : List Int} (h : stepsE n S = 0) (h2 : validB b.1 b.2 0 1000000000 = true) (h3 : ¬ 1000 < nw) : closeE n S b nw ws = firstE (winE ws) nw := by rw [closeE, if_neg (fun h' => h' h), h2, if_neg (by decide), if_neg h3]
section
variable {g : Nat} {rd : Option Nat} {T : List Value} {D : List Nat} {A : Hp} {Q : Ex → St → Prop} {V : Value → Hp → Prop}
theorem loop133a {A0 : Hp} {X16 i : Nat} {E : List Int} {b : Int × Int} {s : StepT} {a ends : Value} (ha : ∀ A, (∀ z, z < A0.n → z ≠ X16 → A.get z = A0.get z) → RdS A 1 s.an (ints s.al) a ∧ RdS A 2 i (ints E) ends) (hn : s.an < 1000000) (hal : ∀ k, k < s.an → 0 ≤ gi s.al k ∧ gi s.al k < i) (hg : g ≤ X16) (hX : X16 < A0.n)
    (hend : ∀ T' A', But X16 A0 A' → A'.get X16 = some (.cells [.int .i64 (readyS E b s.al s.an).1, .int .i64 (readyS E b s.al s.an).2] false) → KeepT [0, 2, 4, 7, 12, 13, 15, 16, 65, 66, 67] T T' → Q (.exit 6) ⟨T', D, A'⟩) (t12 : tget T 12 = ends) (t16 : tget T 16 = .pointer (some ⟨X16, 0, none⟩)) :
    ∀ (k j : Nat) {T1 : List Value} {A : Hp}, j + k = s.an → But X16 A0 A → A.get X16 = some (.cells [.int .i64 (readyS E b s.al j).1, .int .i64 (readyS E b s.al j).2] false) → KeepT [0, 2, 4, 7, 12, 13, 15, 16, 65, 66, 67] T T1 → tget T1 73 = a → tget T1 74 = .int .i64 s.an → tget T1 75 = .int .i64 j → W AP KL g rd (.loop body133a) ⟨T1, D, A⟩ Q := by
  intro k
  induction k with
  | zero =>
    intro j T1 A hik hb hR hk t73 t74 t75
    have : j = s.an := by omega
    subst this
    rw [W_loop]
    simp (disch := as_aux_lemma => first | omega | simp only [hDs] <;> omega | simp [isCell]) [hRs, takeMarks, resA, resAll, resOne, Value.cells, body133a, t74, t75]
    exact hend _ A hb hR (hk.trans (by simp))
  | succ k ih =>
    intro j T1 A hik hb hR hk t73 t74 t75
    have u12 := (hk.at 12 rfl).trans t12
    have u16 := (hk.at 16 rfl).trans t16
    obtain ⟨ra, re⟩ := ha A hb.2
    have hla := ra.1
    have hle := re.1
    rw [ints_length] at hla hle
    obtain ⟨y, c, ro, rfl, hy⟩ := ra.at (i := j) (by omega)
    obtain ⟨h0, h1⟩ := hal j (by omega)
    obtain ⟨v, hv⟩ : ∃ v : Nat, gi s.al j = v := ⟨(gi s.al j).toNat, by omega⟩
    have hyv : cellAt (ints s.al) j = some (.int .i64 (v : Int)) := by rw [← hv]; exact ints_get (by omega)
    obtain ⟨z, c2, ro2, rfl, hz⟩ := re.at (i := v) (by omega)
    have hp : partA (ints E) (v * 2) (some 2) = some (.agg ⟨[.int .i64 (gi E (v * 2)), .int .i64 (gi E (v * 2 + 1))]⟩) := ints_two (by omega)
    have hRn := Hp.lt_of_get hR
    have hstep : readyS E b s.al (j + 1) = (max (if j = 0 then gi E (v * 2) else (readyS E b s.al j).1) (gi E (v * 2)), max (if j = 0 then gi E (v * 2 + 1) else (readyS E b s.al j).2) (gi E (v * 2 + 1))) := by
      show (max (if j = 0 then gi E ((gi s.al j).toNat * 2) else _) _, _) = _
      rw [hv, Int.toNat_natCast]
    obtain ⟨n, hne⟩ : ∃ n, n = s.an := ⟨_, rfl⟩
    have hlt : (j : Int) < n := by omega
    rw [← hne] at t73 t74
    have e3 := wrId (n := (j : Int) + 1) (by omega) (by omega)
    have hb0 := hb.1
    rw [W_loop]
    by_cases c0 : j = 0
    · subst c0
      have hs : A.get X16 = some (.cells [.int .i64 (readyS E b s.al 0).1, .int .i64 (readyS E b s.al 0).2] false) := hR
      have gs := get_set_same (b := some (.cells [.int .i64 (gi E (v * 2)), .int .i64 (gi E (v * 2 + 1))] false)) hs
      have hzX : z ≠ X16 := fun h => by
        have hz' := (ha (A.set X16 none) (fun w hw hwX => by rw [get_set_ne hRn hwX]; exact hb.2 w hw hwX)).2.at (i := v) (by omega)
        obtain ⟨z', c', ro', he', hg'⟩ := hz'
        cases he'
        rw [h, get_set_same hs] at hg'; cases hg'
      have hz2 : ∀ b', (A.set X16 b').get z = A.get z := fun b' => get_set_ne hRn hzX
      simp (disch := as_aux_lemma => first | omega | simp only [hDs] <;> omega | simp [isCell]) [hRs, takeMarks, resA, resAll, resOne, Value.cells, body133a, t73, t74, t75, u12, u16, show (0 : Int) < n by omega, show 0 < n by omega, show idxSA 1 (.slice (some ⟨y, 0, some 1⟩) n c) (.int .i64 0) = some (.pointer (some ⟨y, 0, none⟩)) from idxSA_ok (i := 0) (by omega) (by omega), hy, hyv, idxSA_ok, hz, hp, hs, storeB_cells, setRange, gs, hz2]
      refine w163 (by simp; omega) fun A1 e1 => ?_
      have gs1 := e1.get gs
      simp (disch := as_aux_lemma => first | omega | simp only [hDs] <;> omega | simp [isCell]) [hRs, takeMarks, resA, resAll, resOne, Value.cells, gs1, u16, storeB_cells, setRange, t75]
      refine ih 1 (by omega) (But.trans hb ⟨by have := e1.1; simp at this ⊢; omega, fun w hw hwX => by rw [get_set_ne (Hp.lt_of_get gs1) hwX, e1.2 w (by simpa using hw), get_set_ne hRn hwX]⟩) (by rw [get_set_same gs1, hstep]; simp) (hk.trans (by simp)) (by simp [t73, hne]) (by simp [t74, hne]) (by simp; decide)
    · simp (disch := as_aux_lemma => first | omega | simp only [hDs] <;> omega | simp [isCell]) [hRs, takeMarks, resA, resAll, resOne, Value.cells, body133a, t73, t74, t75, u12, u16, hlt, idxSA_ok, hy, hyv, hz, hp, hR, c0]
      refine w163 (by omega) fun A1 e1 => ?_
      have gs1 := e1.get hR
      simp (disch := as_aux_lemma => first | omega | simp only [hDs] <;> omega | simp [isCell]) [hRs, takeMarks, resA, resAll, resOne, Value.cells, gs1, u16, storeB_cells, setRange, t75]
      refine ih (j + 1) (by omega) (But.trans hb (But.set hRn e1)) (by rw [get_set_same gs1, hstep]; simp [c0]) (hk.trans (by simp)) (by simp [t73, hne]) (by simp [t74, hne]) (by simp [e3])
end
end Go.Ab.Dike
namespace Go.Ab.Dike
open Go Go.Ab
def Bd (B v : Int) : Prop := 0 ≤ v ∧ (v ≤ B ∨ v = never)
theorem Bd.max {B v u : Int} (h : Bd B v) (h' : Bd B u) (hB : B ≤ never) : Bd B (max v u) := by
  unfold Bd never at *
  omega
theorem Bd.le {B v : Int} (h : Bd B v) (hB : B ≤ never) : v ≤ never := by unfold Bd at h; omega
theorem Bd.mono {B B' v : Int} (h : Bd B v) (hB : B ≤ B') : Bd B' v := by unfold Bd at *; omega
theorem slotV_bd {r t : Int} {ws : List Int} {nw : Nat} (hr : 0 ≤ r ∧ r ≤ never) (ht : 0 ≤ t ∧ t ≤ 100000000) (hw : ∀ i, i < nw → 0 ≤ gi ws (i * 2) ∧ gi ws (i * 2 + 1) ≤ 1000000000 ∧ gi ws (i * 2) ≤ 1000000000) : ∀ (k i : Nat), i + k = nw → Bd 1000000000 (slotV r t ws k i)
  | 0, _, _ => ⟨by unfold slotV never; omega, .inr rfl⟩
  | k + 1, i, h => by
    obtain ⟨w1, w2, w3⟩ := hw i (by omega)
    have hs : slotAt r t ws i = Max.max r (gi ws (i * 2)) + t := by
      unfold slotAt
      unfold never at hr
      exact wrId (by omega) (by omega)
    unfold slotV
    split
    · rename_i hle
      rw [hs] at hle ⊢
      exact ⟨by omega, .inl (by omega)⟩
    · exact slotV_bd hr ht hw k (i + 1) (by omega)
theorem endV_bd {B r t : Int} {ws : List Int} {nw : Nat} {calm : Bool} (hr : Bd B r) (hB : 1000000000 ≤ B) (hB2 : B ≤ 100000000000) (ht : 0 ≤ t ∧ t ≤ 100000000) (hw : ∀ i, i < nw → 0 ≤ gi ws (i * 2) ∧ gi ws (i * 2 + 1) ≤ 1000000000 ∧ gi ws (i * 2) ≤ 1000000000) : Bd (B + 100000000) (endV r t calm ws nw) := by
  unfold endV
  split
  · exact ⟨by unfold never; omega, .inr rfl⟩
  · rename_i hne
    have hrB : 0 ≤ r ∧ r ≤ B := by unfold Bd at hr; exact ⟨hr.1, hr.2.resolve_right hne⟩
    split
    · exact (slotV_bd ⟨hrB.1, by unfold never; omega⟩ ht hw nw 0 (by omega)).mono (by omega)
    · rw [wrId (by omega) (by omega)]
      exact ⟨by omega, .inl (by omega)⟩
structure Fine (n : Nat) (S : Nat → StepT) (b : Int × Int) (nw : Nat) (ws : List Int) : Prop where
  n32 : n ≤ 32
  bb : 0 ≤ b.1 ∧ b.1 ≤ 1000000000 ∧ 0 ≤ b.2 ∧ b.2 ≤ 1000000000
  ww : ∀ i, i < nw → 0 ≤ gi ws (i * 2) ∧ gi ws (i * 2 + 1) ≤ 1000000000 ∧ gi ws (i * 2) ≤ 1000000000
  tt : ∀ i, i < n → (0 ≤ (S i).tl ∧ (S i).tl ≤ 100000000) ∧ (0 ≤ (S i).th ∧ (S i).th ≤ 100000000)
  aa : ∀ i, i < n → ∀ k, k < (S i).an → 0 ≤ gi (S i).al k ∧ gi (S i).al k < i
theorem validB_iff {a b lo hi : Int} : validB a b lo hi = true ↔ a ≤ b ∧ lo ≤ a ∧ b ≤ hi := by simp [validB]
theorem fine_of {n : Nat} {S : Nat → StepT} {b : Int × Int} {nw : Nat} {ws : List Int} (h1 : stepsE n S = 0) (h2 : validB b.1 b.2 0 1000000000 = true) (h3 : firstE (winE ws) nw = 0) : Fine n S b nw ws := by
  have hn : ¬ 32 < n := fun h => by rw [stepsE, if_pos h] at h1; cases h1
  rw [stepsE, if_neg hn] at h1
  have hall := firstE_all h1
  have parts : ∀ i, i < n → firstE (aftE i (S i).al) (S i).an = 0 ∧ lastE (S i) = 0 := by
    intro i hi
    have := hall i hi
    unfold stpE at this
    split at this
    · cases this
    · split at this
      · cases this
      · split at this
        · rename_i h; exact absurd this h
        · rename_i h; exact ⟨Decidable.not_not.1 h, this⟩
  rw [validB_iff] at h2
  refine ⟨by omega, by omega, fun i hi => ?_, fun i hi => ?_, fun i hi k hk => ?_⟩
  · have := firstE_all h3 i hi
    unfold winE at this
    split at this
    · cases this
    · rename_i h
      rw [Bool.not_eq_false, validB_iff] at h
      omega
  · have := (parts i hi).2
    unfold lastE at this
    split at this
    · cases this
    · rename_i h
      simp only [not_or, Bool.not_eq_false] at h
      have h0 := validB_iff.1 h.1
      omega
  · have := firstE_all (parts i hi).1 k hk
    unfold aftE at this
    split at this
    · cases this
    · rename_i h; omega
end Go.Ab.Dike
namespace Go.Ab.Dike
open Go Go.Ab
def body133 : ACode := (.seq
 (.ops [
oB 68 .lss 67 66])
 (.seq
 (.cond (.t 68)
 .skip
 (.exit 4))
 (.seq
 (.block 5
 (.seq
 (.ops [
oI 69 65 67 7,
oD 70 69 7,
⟨some 15, none, [], .alloc [.string ⟨⟨[]⟩⟩, .slice none 0 0, .int .i64 0, .int .i64 0, .bool false, .bool false, .int .i64 0]⟩,
oT 15 70 7])
 (.seq
 (.ops [
oD 71 4 2,
oP 16 (.alloc [.int .i64 0, .int .i64 0]),
oT 16 71 2])
 (.seq
 (.seq
 (.ops [
oF 72 15 1,
oL 73 72,
oP 74 (.len (.t 73)),
oP 75 (.move (oK 0))])
 (.block 6
 (.loop
 (.seq
 (.ops [
oB 76 .lss 75 74])
 (.seq
 (.cond (.t 76)
 .skip
 (.exit 6))
 (.seq
 (.block 7
 (.seq
 (.ops [
oM 77 75,
oI 78 73 75 1,
oL 79 78,
oM 17 77,
oM 18 79])
 (.seq
 (.seq
 (.ops [
oM 80 17,
oC 81 .eql 80 0])
 (.cond (.t 81)
 (.ops [
oM 82 12,
oM 83 18,
oI 84 82 83 2,
oD 85 84 2,
oT 16 85 2])
 .skip))
 (.ops [
oD 86 16 2,
oM 87 12,
oM 88 18,
oI 89 87 88 2,
oD 90 89 2,
oA 91 163 [.t 86, .t 90] false,
oT 16 91 2]))))
 (.ops [
oC 92 .add 75 1,
oM 75 92])))))))
 (.seq
 (.ops [
oD 93 15 7,
oF 94 16 0,
oL 95 94,
oF 96 15 2,
oF 97 96 0,
oL 98 97,
oM 99 2,
oA 100 164 [.t 93, .t 95, .t 98, .t 99] true,
oD 101 15 7,
oF 102 16 1,
oL 103 102,
oF 104 15 2,
oF 105 104 1,
oL 106 105,
oM 107 2,
oA 108 164 [.t 101, .t 103, .t 106, .t 107] true,
oP 109 (.build [.int .i64 0, .int .i64 0] [(0, 1, .t 100), (1, 1, .t 108)]),
oP 19 (.alloc [.int .i64 0, .int .i64 0]),
oT 19 109 2])
 (.ops [
oM 110 12,
oD 111 19 2,
oP 112 (.slit 1 2 [.int .i64 0, .int .i64 0] [(0, .t 111)]),
oP 113 (.append (.t 110) (.t 112) 2 16),
⟨some 114, none, [(.t 110, 0, .t 13, 2)], .load (.t 13) (some 2)⟩,
⟨some 115, none, [(.t 110, 0, .t 19, 2)], .load (.t 19) (some 2)⟩,
oA 116 163 [.t 114, .t 115] false,
oM 12 113,
oT 13 116 2]))))))
 (.ops [
oC 117 .add 67 1,
oM 67 117]))))
section
variable {g : Nat} {rd : Option Nat} {T : List Value} {D : List Nat} {A : Hp} {Q : Ex → St → Prop} {V : Value → Hp → Prop}
def pairB (p : Int × Int) : ABlk := .cells [.int .i64 p.1, .int .i64 p.2] false
theorem loop133 {A1 : Hp} {X4 X13 N n nw : Nat} {S : Nat → StepT} {b : Int × Int} {ws : List Int} {sl wl : Value} (hold : ∀ A : Hp, (∀ z, z < N → z ≠ X13 → A.get z = A1.get z) → Steps A n S sl ∧ RdS A 2 nw (ints ws) wl ∧ A.get X4 = some (pairB b)) (hf : Fine n S b nw ws) (hnw : nw < 1000000) (hS : ∀ i, i < n → (S i).an < 1000000)
    (hXN : X13 < N) (h4N : X4 < N) (hgX : g ≤ X13) (hgN : g ≤ N)
    (hend : ∀ T' A' sv, KeepT [0, 2, 4, 7, 13] T T' → tget T' 12 = sv → AccS N A' 2 (ints (endsL S b ws nw n)) sv → A'.get X13 = some (pairB (allS S b ws nw n)) → N ≤ A'.n → (∀ z, z < N → z ≠ X13 → A'.get z = A1.get z) → Q (.exit 4) ⟨T', D, A'⟩)
    (t2 : tget T 2 = wl) (t4 : tget T 4 = .pointer (some ⟨X4, 0, none⟩)) (t13 : tget T 13 = .pointer (some ⟨X13, 0, none⟩)) :
    ∀ (k i : Nat) {T1 : List Value} {A : Hp} {sv : Value}, i + k = n → KeepT [0, 2, 4, 7, 13] T T1 → tget T1 12 = sv → tget T1 65 = sl → tget T1 66 = .int .i64 n → tget T1 67 = .int .i64 i → AccS N A 2 (ints (endsL S b ws nw i)) sv → A.get X13 = some (pairB (allS S b ws nw i)) → N ≤ A.n → (∀ z, z < N → z ≠ X13 → A.get z = A1.get z) → W AP KL g rd (.loop body133) ⟨T1, D, A⟩ Q := by
  have hn32 := hf.n32
  intro k
  induction k with
  | zero =>
    intro i T1 A sv hik hk t12 t65 t66 t67 hacc hX hN ho
    have : i = n := by omega
    subst this
    rw [W_loop]
    simp (disch := as_aux_lemma => first | omega | simp only [hDs] <;> omega | simp [isCell]) [hRs, takeMarks, resA, resAll, resOne, Value.cells, body133, t66, t67]
    exact hend _ A sv (hk.trans (by simp)) (by simp [t12]) hacc hX hN ho
  | succ k ih =>
    intro i T1 A sv hik hk t12 t65 t66 t67 hacc hX hN ho
    have u2 := (hk.at 2 rfl).trans t2
    have u4 := (hk.at 4 rfl).trans t4
    have u13 := (hk.at 13 rfl).trans t13
    obtain ⟨hsl, hwl, hX4⟩ := hold A ho
    obtain ⟨x, c, ro, cells, rfl, hx, hcl, hat⟩ := hsl.at (i := i) (by omega)
    obtain ⟨a, p1, p2, p3, p4, p5, p6, p7, p8, p9, ra⟩ := hat i (by omega)
    obtain ⟨s, hs⟩ : ∃ s, s = S i := ⟨_, rfl⟩
    have hsn := hS i (by omega)
    have haa := hf.aa i (by omega)
    rw [← hs] at p1 ra hsn haa
    obtain ⟨E, hE⟩ : ∃ E, E = endsL S b ws nw i := ⟨_, rfl⟩
    have hEl : E.length = i * 2 := by rw [hE]; exact endsL_length S b ws nw i
    rw [← hE] at hacc
    have hrE := hacc.rd (n := i) (by rw [ints_length, hEl]) (by decide)
    obtain ⟨al, hal⟩ : ∃ al, al = allS S b ws nw i := ⟨_, rfl⟩
    rw [← hal] at hX
    have hXn := Hp.lt_of_get hX
    have h4n := Hp.lt_of_get hX4
    unfold pairB at hX4
    obtain ⟨pa, na, rfl⟩ := ra.isSlice
    obtain ⟨C, hC⟩ : ∃ C, C = (A.push (.cells (stepC (.slice pa s.an na) s) false)).push (.cells [.int .i64 b.1, .int .i64 b.2] false) := ⟨_, rfl⟩
    have eC : Ext' A C := by rw [hC]; exact (Ext'.push A _).trans (Ext'.push _ _)
    have hCn : C.n = A.n + 2 := by rw [hC]; rfl
    have hC15 : C.get A.n = some (.cells (stepC (.slice pa s.an na) s) false) := by rw [hC, get_push_old (by simp), get_push_new]
    have hC16 : C.get (A.n + 1) = some (.cells [.int .i64 b.1, .int .i64 b.2] false) := by rw [hC, get_push_eq (by simp)]
    have hC' : (A.push (.cells [.string s.name, .slice pa s.an na, .int .i64 s.tl, .int .i64 s.th, .bool s.calm, .bool s.clear, .int .i64 s.logs] false)).push (.cells [.int .i64 b.1, .int .i64 b.2] false) = C := hC.symm
    have hC15' : C.get A.n = some (.cells [.string s.name, .slice pa s.an na, .int .i64 s.tl, .int .i64 s.th, .bool s.calm, .bool s.clear, .int .i64 s.logs] false) := hC15
    have hlen := ra.len
    rw [W_loop]
    simp (disch := as_aux_lemma => first | omega | simp only [hDs] <;> omega | simp [isCell]) [hRs, takeMarks, resA, resAll, resOne, Value.cells, body133, t65, t66, t67, u4, show ((i : Int) < n) by omega, idxSA_ok, hx, p1, stepC, storeB_cells, setRange, set_push_eq, hX4, hC', hC15', hlen]
    refine loop133a (A0 := C) (X16 := A.n + 1) (i := i) (E := E) (b := b) (s := s) (ends := sv) (fun A' h' => ⟨ra.mono fun z hz => by rw [h' z (by omega) (by omega), eC.2 z hz], hrE.mono fun z hz => by rw [h' z (by omega) (by omega), eC.2 z hz]⟩) hsn haa (by omega) (by omega) ?_ (T := _) ?_ ?_ s.an 0 (by omega) (But.of_ext (Ext'.refl _)) hC16 (fun _ _ => rfl) (by simp) (by simp) (by simp)
    · intro T2 A2 hb2 h16 k2
      have w2 := k2.at 2 rfl
      have w12 := k2.at 12 rfl
      have w13 := k2.at 13 rfl
      have w15 := k2.at 15 rfl
      have w16 := k2.at 16 rfl
      have w67 := k2.at 67 rfl
      have w66 := k2.at 66 rfl
      have w65 := k2.at 65 rfl
      have w0 := k2.at 0 rfl
      have w4 := k2.at 4 rfl
      have w7 := k2.at 7 rfl
      simp [u2, u4, u13, t12, t65, t66, t67] at w2 w12 w13 w15 w16 w67 w66 w65 w4
      simp at w0 w7
      have hb20 := hb2.1
      have e2 : Ext' A A2 := ⟨by omega, fun z hz => by rw [hb2.2 z (by omega) (by omega), eC.2 z hz]⟩
      have h15 : A2.get A.n = _ := (hb2.2 A.n (by omega) (by omega)).trans hC15
      have h15' : A2.get A.n = _ := (hb2.2 A.n (by omega) (by omega)).trans hC15'
      obtain ⟨r, hr⟩ : ∃ r, r = readyS E b s.al s.an := ⟨_, rfl⟩
      rw [← hr] at h16
      have hc7 : partA [.string s.name, .slice pa s.an na, .int .i64 s.tl, .int .i64 s.th, .bool s.calm, .bool s.clear, .int .i64 s.logs] 0 (some 7) = some (.agg ⟨stepC (.slice pa s.an na) s⟩) := rfl
      simp (disch := as_aux_lemma => first | omega | simp only [hDs] <;> omega | simp [isCell]) [hRs, takeMarks, resA, resAll, resOne, Value.cells, w2, w15, w16, h15', h16, hc7]
      refine w164 (e2.rdS hwl) hnw (by omega) fun A3 e3 => ?_
      have n3 := e3.1
      have h153 := e3.get h15'
      have h163 := e3.get h16
      simp (disch := as_aux_lemma => first | omega | simp only [hDs] <;> omega | simp [isCell]) [hRs, takeMarks, resA, resAll, resOne, Value.cells, w2, w15, w16, h153, h163, hc7]
      refine w164 ((e2.trans e3).rdS hwl) hnw (by omega) fun A4 e4 => ?_
      have n4 := e4.1
      have e04 := e2.trans (e3.trans e4)
      obtain ⟨x1, hx1⟩ : ∃ x1, x1 = endV r.1 s.tl s.calm ws nw := ⟨_, rfl⟩
      obtain ⟨x2, hx2⟩ : ∃ x2, x2 = endV r.2 s.th s.calm ws nw := ⟨_, rfl⟩
      rw [← hx1, ← hx2]
      have hen : endS E b s ws nw = (x1, x2) := by rw [endS, ← hr, hx1, hx2]
      have e5 := Ext'.push A4 (.cells [.int .i64 x1, .int .i64 x2] false)
      have acc5 := (hacc.mono e04.2).mono e5.2
      obtain ⟨sv', A6, ha6, hacc6, hold6, n6, hb6⟩ := add_keep (g := g) (bytes := 16) (n := i) (ro := false) (new := [.int .i64 x1, .int .i64 x2]) acc5 hgN (by simp; omega) rfl (by decide) rfl (by rw [ints_length, hEl]) (by unfold room; omega)
      simp only [Hp.n_push] at n6 ha6 hold6
      have hblk : ∀ z, blkOf sv = some z → N ≤ z ∧ z < A.n := fun z hz => hacc.blk_ge hz
      have nX13 : blkOf sv ≠ some X13 := fun h => by have := hblk _ h; omega
      have nX19 : blkOf sv ≠ some A4.n := fun h => by have := hblk _ h; omega
      have h136 : A6.get X13 = some (.cells [.int .i64 al.1, .int .i64 al.2] false) := by rw [hold6 X13 (by omega) nX13, get_push_old (by omega), e04.2 X13 hXn]; exact hX
      have h196 : A6.get A4.n = some (.cells [.int .i64 x1, .int .i64 x2] false) := by rw [hold6 A4.n (by omega) nX19, get_push_new]
      have fin : W AP KL g rd (.loop body133) ⟨T1, D, A⟩ Q ∨ True := .inr trivial
      have main : ∀ (T3 : List Value), tget T3 12 = sv' → tget T3 13 = .pointer (some ⟨X13, 0, none⟩) → True := fun _ _ _ => trivial
      have hen1 : allS S b ws nw (i + 1) = (max al.1 x1, max al.2 x2) := by
        show (max (allS S b ws nw i).1 (endS (endsL S b ws nw i) b (S i) ws nw).1, max (allS S b ws nw i).2 (endS (endsL S b ws nw i) b (S i) ws nw).2) = _
        rw [← hE, ← hal, ← hs, hen]
      have hen2 : endsL S b ws nw (i + 1) = E ++ [x1, x2] := by
        show endsL S b ws nw i ++ [(endS (endsL S b ws nw i) b (S i) ws nw).1, (endS (endsL S b ws nw i) b (S i) ws nw).2] = _
        rw [← hE, ← hs, hen]
      have e3' := wrId (n := (i : Int) + 1) (by omega) (by omega)
      have last : ∀ (T3 : List Value) (A7 : Hp), Ext' A6 A7 → KeepT [0, 2, 4, 7, 13, 65, 66, 67] T2 T3 → tget T3 12 = sv' → W AP KL g rd (.loop body133) ⟨tset (tset T3 117 (.int .i64 ((i : Int) + 1))) 67 (.int .i64 ((i : Int) + 1)), D, A7.set X13 (some (.cells [.int .i64 (max al.1 x1), .int .i64 (max al.2 x2)] false))⟩ Q := by
        intro T3 A7 e7 k3 v12
        have n7 := e7.1
        have h137 := e7.get h136
        refine ih (i + 1) (sv := sv') (by omega) (hk.trans ?_) (by simp [v12]) (by simp [k3.at 65 rfl, w65]) (by simp [k3.at 66 rfl, w66]) (by simp) ?_ ?_ (by simp; omega) fun z hz hzX => ?_
        · simp [k3.at 0 rfl, k3.at 2 rfl, k3.at 4 rfl, k3.at 7 rfl, k3.at 13 rfl, w0, w2, u2, w4, u4, w7, w13, u13]
        · rw [hen2, ints_append]
          refine AccS.keepB (A := A7) (AccS.mono (A := A6) hacc6 e7.2) fun z hz => get_set_ne (Hp.lt_of_get h137) ?_
          have := (hacc6.blk_ge hz).1; omega
        · rw [get_set_same h137, hen1]; rfl
        · rw [get_set_ne (Hp.lt_of_get h137) hzX, e7.2 z (by omega), hold6 z (by omega) (fun h => by have := hblk _ h; omega), get_push_old (by omega), e04.2 z (by omega), ho z hz hzX]
      rcases hacc with ⟨rfl, _⟩ | ⟨y, q, rfl, hy1, hy2, hy3, hy4⟩
      · obtain ⟨p7, q7, r7, rfl⟩ := hacc6.isSlice
        simp (disch := as_aux_lemma => first | omega | simp only [hDs] <;> omega | simp [isCell]) [hRs, takeMarks, resA, resAll, resOne, Value.cells, w12, w13, fillA, storeB_cells, setRange, set_push_eq, slitA, ha6, h136, h196, apartA]
        refine w163 (by omega) fun A7 e7 => ?_
        have h137 := e7.get h136
        simp (disch := as_aux_lemma => first | omega | simp only [hDs] <;> omega | simp [isCell]) [hRs, takeMarks, resA, resAll, resOne, Value.cells, w13, w67, h137, storeB_cells, setRange, e3']
        exact last _ A7 e7 (by simp) (by simp)
      · obtain ⟨p7, q7, r7, rfl⟩ := hacc6.isSlice
        have hyn := Hp.lt_of_get hy1
        simp (disch := as_aux_lemma => first | omega | simp only [hDs] <;> omega | simp [isCell]) [hRs, takeMarks, resA, resAll, resOne, Value.cells, w12, w13, fillA, storeB_cells, setRange, set_push_eq, slitA, ha6, h136, h196, apartA, show ¬ X13 = y by omega, show ¬ A4.n = y by omega]
        refine w163 (by omega) fun A7 e7 => ?_
        have h137 := e7.get h136
        simp (disch := as_aux_lemma => first | omega | simp only [hDs] <;> omega | simp [isCell]) [hRs, takeMarks, resA, resAll, resOne, Value.cells, w13, w67, h137, storeB_cells, setRange, e3']
        exact last _ A7 e7 (by simp) (by simp)
    · simp [t12]
    · simp
end
end Go.Ab.Dike
namespace Go.Ab.Dike
open Go Go.Ab
def CloseOut (n : Nat) (S : Nat → StepT) (b : Int × Int) (nw : Nat) (ws : List Int) (v : Value) (A' : Hp) : Prop :=
  (closeE n S b nw ws ≠ 0 ∧ v = .tuple ⟨[.slice none 0 0, .agg ⟨[.int .i64 0, .int .i64 0]⟩, .int .i64 (closeE n S b nw ws)]⟩) ∨
  (closeE n S b nw ws = 0 ∧ ∃ sl, v = .tuple ⟨[sl, .agg ⟨[.int .i64 (allS S b ws nw n).1, .int .i64 (allS S b ws nw n).2]⟩, .int .i64 0]⟩ ∧ RdS A' 2 n (ints (endsL S b ws nw n)) sl)
section
variable {g : Nat} {rd : Option Nat} {T : List Value} {D : List Nat} {A : Hp} {Q : Ex → St → Prop} {V : Value → Hp → Prop}
theorem w133 {n nw : Nat} {S : Nat → StepT} {b : Int × Int} {ws : List Int} {sl wl : Value} (hsl : Steps A n S sl) (hn : n < 1000000) (hS : ∀ i, i < n → (S i).name.size < 1000000 ∧ (S i).an < 1000000) (hwl : RdS A 2 nw (ints ws) wl) (hnw : nw < 1000000) (hg : g ≤ A.n)
    (hV : ∀ v A', Ext' A A' → CloseOut n S b nw ws v A' → V v A') : WF AP KL g 133 [sl, .agg ⟨[.int .i64 b.1, .int .i64 b.2]⟩, wl] A V := by
  rw [WF_body (show KL 133 = none from rfl) (show AP 133 = some F133 from rfl)]
  obtain ⟨B, hB⟩ : ∃ B, B = (A.push (pairB b)).push zSpan := ⟨_, rfl⟩
  have hBn : B.n = A.n + 2 := by rw [hB]; rfl
  have eB : Ext' A B := by rw [hB]; exact (Ext'.push A _).trans (Ext'.push _ _)
  have h4 : B.get A.n = some (pairB b) := by rw [hB, get_push_old (by simp), get_push_new]
  have h7 : B.get (A.n + 1) = some zSpan := by rw [hB, get_push_eq (by simp)]
  have hB' : (A.push (.cells [.int .i64 b.1, .int .i64 b.2] false)).push (.cells [.int .i64 0, .int .i64 0] false) = B := hB.symm
  have bad : ∀ (A2 : Hp) (e : Int), But (A.n + 1) B A2 → closeE n S b nw ws = e → e ≠ 0 → V (.tuple ⟨[.slice none 0 0, .agg ⟨[.int .i64 0, .int .i64 0]⟩, .int .i64 e]⟩) A2 := by
    intro A2 e he hh h0
    have := he.1
    refine hV _ _ ⟨by omega, fun z hz => ?_⟩ (.inl ⟨by rw [hh]; exact h0, by rw [hh]⟩)
    rw [he.2 z (by omega) (by omega), eB.2 z hz]
  simp (disch := as_aux_lemma => first | omega | simp only [hDs] <;> omega | simp [isCell]) [hRs, takeMarks, resA, resAll, resOne, Value.cells, F133, hB']
  refine w135 (hsl.ext eB) hn hS (by omega) fun A1 e1 => ?_
  have n1 := e1.1
  have g7 := e1.get h7
  have g4 := e1.get h4
  unfold pairB at g4
  by_cases c1 : stepsE n S = 0
  · simp (disch := as_aux_lemma => first | omega | simp only [hDs] <;> omega | simp [isCell]) [hRs, takeMarks, resA, resAll, resOne, Value.cells, c1, g4]
    refine w160 fun A2 n2 o2 => ?_
    have e2 : Ext' A1 A2 := ⟨by omega, o2⟩
    have g72 := e2.get g7
    have g42 := e2.get g4
    have e02 := e1.trans e2
    cases c2 : validB b.1 b.2 0 1000000000 with
    | false =>
      have gs := get_set_same (b := some (.cells [.int .i64 0, .int .i64 0] false)) g72
      simp (disch := as_aux_lemma => first | omega | simp only [hDs] <;> omega | simp [isCell]) [hRs, takeMarks, resA, resAll, resOne, Value.cells, fillA, g72, zSpan, storeB_cells, setRange, gs]
      exact bad _ 3 (But.set (by omega) e02) (closeE_b c1 c2) (by decide)
    | true =>
      by_cases c3 : (1000 : Int) < nw
      · have gs := get_set_same (b := some (.cells [.int .i64 0, .int .i64 0] false)) g72
        simp (disch := as_aux_lemma => first | omega | simp only [hDs] <;> omega | simp [isCell]) [hRs, takeMarks, resA, resAll, resOne, Value.cells, hwl.len, c3, fillA, g72, zSpan, storeB_cells, setRange, gs]
        exact bad _ 9 (But.set (by omega) e02) (closeE_c c1 c2 (by omega)) (by decide)
      · have hE := closeE_d (n := n) (S := S) (b := b) (nw := nw) (ws := ws) c1 c2 (by omega)
        simp (disch := as_aux_lemma => first | omega | simp only [hDs] <;> omega | simp [isCell]) [hRs, takeMarks, resA, resAll, resOne, Value.cells, hwl.len, c3]
        refine loop133w (A0 := A2) (X7 := A.n + 1) (n := nw) (ws := ws) (sl := wl) ((eB.trans e02).rdS hwl) hnw g72 (by omega) ?_ ?_ (T := _) ?_ ?_ nw 0 (by omega) rfl (Ext'.refl _) (fun _ _ => rfl) (by simp) (by simp) (by simp)
        · intro T' A' e he hne hb g7' t6 t7 t8
          unfold zSpan at g7'
          simp (disch := as_aux_lemma => first | omega | simp only [hDs] <;> omega | simp [isCell]) [hRs, takeMarks, resA, resAll, resOne, Value.cells, t6, t7, t8, g7']
          exact bad A' e ⟨by have := hb.1; omega, fun z hz hz8 => (hb.2 z (by omega) hz8).trans (e02.2 z hz)⟩ (by rw [hE]; exact he) hne
        · intro T3 A3 he e3 k3
          have n3 := e3.1
          have hfine := fine_of (n := n) (S := S) (b := b) (nw := nw) (ws := ws) c1 c2 he
          have v0 := k3.at 0 rfl
          have v2 := k3.at 2 rfl
          have v4 := k3.at 4 rfl
          have v7 := k3.at 7 rfl
          simp at v0 v2 v4 v7
          have g43 := e3.get g42
          have g73 := e3.get g72
          have e03 := eB.trans (e02.trans e3)
          simp (disch := as_aux_lemma => first | omega | simp only [hDs] <;> omega | simp [isCell]) [hRs, takeMarks, resA, resAll, resOne, Value.cells, v0, v4, g43, storeB_cells, setRange, set_push_eq, (hsl.ext e03).len]
          obtain ⟨A4, hA4⟩ : ∃ A4, A4 = A3.push (pairB b) := ⟨_, rfl⟩
          have hA4' : A3.push (.cells [.int .i64 b.1, .int .i64 b.2] false) = A4 := hA4.symm
          rw [hA4']
          have hA4n : A4.n = A3.n + 1 := by rw [hA4]; rfl
          have e4 : Ext' A3 A4 := by rw [hA4]; exact Ext'.push _ _
          have hX : A4.get A3.n = some (pairB b) := by rw [hA4, get_push_new]
          have e04 := e03.trans e4
          refine loop133 (A1 := A4) (X4 := A.n) (X13 := A3.n) (N := A4.n) (n := n) (nw := nw) (S := S) (b := b) (ws := ws) (sl := sl) (wl := wl) ?_ hfine hnw (fun i hi => (hS i hi).2) (by omega) (by omega) (by omega) (by omega) ?_ (T := _) ?_ ?_ ?_ n 0 (sv := .slice none 0 0) (by omega) (fun _ _ => rfl) (by simp) (by simp) (by simp) (by simp) AccS.nil hX (Nat.le_refl _) (fun z _ _ => rfl)
          · intro A' ho
            have hA' : ∀ z, z < A.n → A'.get z = A.get z := fun z hz => by rw [ho z (by omega) (by omega), e04.2 z hz]
            exact ⟨hsl.mono hA', hwl.mono hA', (ho A.n (by omega) (by omega)).trans (e4.get g43)⟩
          · intro T5 A5 sv k5 qe hacc hall hN5 ho5
            have q13 := k5.at 13 rfl
            have q7 := k5.at 7 rfl
            simp [v7] at q13 q7
            have h75 : A5.get (A.n + 1) = some zSpan := (ho5 (A.n + 1) (by omega) (by omega)).trans (e4.get g73)
            have gs : ∀ b', (A5.set (A.n + 1) (some b')).get (A.n + 1) = some b' := fun b' => get_set_same h75
            unfold zSpan at h75
            unfold pairB at hall
            obtain ⟨p5, q5, r5, rfl⟩ := hacc.isSlice
            simp (disch := as_aux_lemma => first | omega | simp only [hDs] <;> omega | simp [isCell]) [hRs, takeMarks, resA, resAll, resOne, Value.cells, q13, q7, qe, hall, h75, storeB_cells, setRange, gs]
            refine hV _ _ ⟨by simp; omega, fun z hz => ?_⟩ (.inr ⟨by rw [hE]; exact he, _, rfl, ?_⟩)
            · rw [get_set_ne (by omega) (by omega), ho5 z (by omega) (by omega), e04.2 z hz]
            · refine AccS.rd (AccS.keepB hacc fun z hz => get_set_ne (by omega) ?_) (by rw [ints_length, endsL_length]) (by decide)
              have := (hacc.blk_ge hz).1; omega
          · simp [v2]
          · simp [v4]
          · simp
        · simp
        · simp
  · have gs := get_set_same (b := some (.cells [.int .i64 0, .int .i64 0] false)) g7
    simp (disch := as_aux_lemma => first | omega | simp only [hDs] <;> omega | simp [isCell]) [hRs, takeMarks, resA, resAll, resOne, Value.cells, c1, fillA, g7, zSpan, storeB_cells, setRange, gs]
    exact bad _ _ (But.set (by omega) e1) (closeE_a c1) c1
end
end Go.Ab.Dike
namespace Go.Ab.Dike
open Go Go.Ab
section
variable {g : Nat} {rd : Option Nat} {T : List Value} {D : List Nat} {A : Hp} {Q : Ex → St → Prop} {V : Value → Hp → Prop}
end
end Go.Ab.Dike
namespace Go.Ab.Dike
open Go Go.Ab
theorem _root_.Go.Ab.RdS.cellsAt {A : Hp} {k n : Nat} {cs : List Value} {sv : Value} (h : RdS A k n cs sv) : cellsAt A (n * k) sv = some cs := by
  obtain ⟨h0, ⟨rfl, rfl⟩ | ⟨b, c, ro, rfl, hb⟩⟩ := h
  · have : cs = [] := List.eq_nil_of_length_eq_zero (by simpa using h0)
    subst this; simp [Go.Ab.cellsAt]
  · simp only [Go.Ab.cellsAt, hb]
    rw [if_pos (by omega)]
    simp [← h0]
section
variable {g : Nat} {rd : Option Nat} {T : List Value} {D : List Nat} {A : Hp} {Q : Ex → St → Prop} {V : Value → Hp → Prop}
end
end Go.Ab.Dike
namespace Go.Ab.Dike
open Go Go.Ab
section
variable {g : Nat} {rd : Option Nat} {T : List Value} {D : List Nat} {A : Hp} {Q : Ex → St → Prop} {V : Value → Hp → Prop}
end
end Go.Ab.Dike
namespace Go.Ab.Dike
open Go Go.Ab
section
variable {g : Nat} {A : Hp} {V : Value → Hp → Prop}
end
end Go.Ab.Dike
namespace Go.Ab.Dike
open Go Go.Ab
def FSep (A : Hp) (cells : List Value) (sv : Value) (j : Nat) (f : FT) : Prop :=
  ∃ a b, cellAt cells (j * 4) = some a ∧ cellAt cells (j * 4 + 1) = some b ∧ cellAt cells (j * 4 + 2) = some (.int .i64 f.may) ∧ cellAt cells (j * 4 + 3) = some (.int .i64 f.must) ∧ RdS A 2 f.cn (ints f.cz) a ∧ RdS A 2 f.sn (ints f.sz) b ∧
    (∀ z, blkOf a = some z → blkOf sv ≠ some z) ∧ (∀ z, blkOf b = some z → blkOf sv ≠ some z)
theorem FSep.at {A : Hp} {cells : List Value} {sv : Value} {j : Nat} {f : FT} (h : FSep A cells sv j f) : FateAt A cells j f := by
  obtain ⟨a, b, h1, h2, h3, h4, h5, h6, _⟩ := h
  exact ⟨a, b, part4 h1 h2 h3 h4, h1, h2, h3, h4, h5, h6⟩
theorem _root_.Go.Ab.RdS.keepB {A A' : Hp} {k n : Nat} {cs : List Value} {sv : Value} (h : RdS A k n cs sv) (hA : ∀ z, blkOf sv = some z → A'.get z = A.get z) : RdS A' k n cs sv := by
  obtain ⟨h0, h | ⟨b, c, ro, rfl, h2⟩⟩ := h
  · exact ⟨h0, .inl h⟩
  · exact ⟨h0, .inr ⟨b, c, ro, rfl, by rw [hA b rfl]; exact h2⟩⟩
theorem _root_.Go.Ab.RdS.blk_lt {A : Hp} {k n : Nat} {cs : List Value} {sv : Value} (h : RdS A k n cs sv) {z : Nat} (hz : blkOf sv = some z) : z < A.n := by
  obtain ⟨h0, ⟨rfl, _⟩ | ⟨b, c, ro, rfl, h2⟩⟩ := h
  · cases hz
  · cases hz; exact Hp.lt_of_get h2
theorem cellAt_left {cs ds : List Value} {o : Nat} {v : Value} (h : cellAt cs o = some v) : cellAt (cs ++ ds) o = some v := by
  have hl := (List.getElem?_eq_some_iff.1 (show cs[o]? = some v from h)).1
  show (cs ++ ds)[o]? = some v
  rw [List.getElem?_append_left hl]; exact h
theorem FSep.next {A A' : Hp} {cells new : List Value} {sv sv' : Value} {j : Nat} {f : FT} (h : FSep A cells sv j f) (hA : ∀ z, z < A.n → blkOf sv ≠ some z → A'.get z = A.get z) (hsv : ∀ z, blkOf sv' = some z → A.n ≤ z) : FSep A' (cells ++ new) sv' j f := by
  obtain ⟨a, b, h1, h2, h3, h4, h5, h6, h7, h8⟩ := h
  refine ⟨a, b, cellAt_left h1, cellAt_left h2, cellAt_left h3, cellAt_left h4, h5.keepB fun z hz => hA z (h5.blk_lt hz) (h7 z hz), h6.keepB fun z hz => hA z (h6.blk_lt hz) (h8 z hz), fun z hz h => ?_, fun z hz h => ?_⟩
  · have := hsv z h; have := h5.blk_lt hz; omega
  · have := hsv z h; have := h6.blk_lt hz; omega
section
variable {g : Nat} {rd : Option Nat} {T : List Value} {D : List Nat} {A : Hp} {Q : Ex → St → Prop} {V : Value → Hp → Prop}
end
end Go.Ab.Dike
namespace Go.Ab.Dike
open Go Go.Ab
theorem partA_of {cs : List Value} {o : Nat} {vs : List Value} (h : ∀ (j : Nat) v, vs[j]? = some v → cs[o + j]? = some v) (h0 : 0 < vs.length) : partA cs o (some vs.length) = some (.agg ⟨vs⟩) := by
  have hl : o + vs.length ≤ cs.length := by
    have := h (vs.length - 1) vs[vs.length - 1] (List.getElem?_eq_getElem (by omega))
    have := (List.getElem?_eq_some_iff.1 this).1
    omega
  rw [partA_some hl]
  congr 3
  apply List.ext_getElem?
  intro i
  rw [List.getElem?_take]
  by_cases hi : i < vs.length
  · rw [if_pos hi, List.getElem?_drop, List.getElem?_eq_getElem hi]
    exact h i _ (List.getElem?_eq_getElem hi)
  · rw [if_neg hi, List.getElem?_eq_none (by omega)]
def SSep (A : Hp) (cells : List Value) (sv : Value) (j : Nat) (s : StepT) : Prop :=
  ∃ a, (∀ (o : Nat) v, (stepC a s)[o]? = some v → cells[j * 7 + o]? = some v) ∧ RdS A 1 s.an (ints s.al) a ∧ (∀ z, blkOf a = some z → blkOf sv ≠ some z)
theorem stepAt_of {A : Hp} {cells : List Value} {j : Nat} {s : StepT} {a : Value} (h : ∀ (o : Nat) v, (stepC a s)[o]? = some v → cells[j * 7 + o]? = some v) (hr : RdS A 1 s.an (ints s.al) a) : StepAt A cells j s := by
  refine ⟨a, partA_of (vs := stepC a s) h (by simp [stepC]), h 0 _ rfl, h 1 _ rfl, ?_, h 2 _ rfl, h 3 _ rfl, h 4 _ rfl, h 5 _ rfl, h 6 _ rfl, hr⟩
  refine partA_of (vs := [.int .i64 s.tl, .int .i64 s.th]) (fun o v ho => ?_) (by simp)
  match o with
  | 0 => exact h 2 _ ho
  | 1 => exact h 3 _ ho
  | o + 2 => cases ho
theorem SSep.next {A A' : Hp} {cells new : List Value} {sv sv' : Value} {j : Nat} {s : StepT} (h : SSep A cells sv j s) (hA : ∀ z, z < A.n → blkOf sv ≠ some z → A'.get z = A.get z) (hsv : ∀ z, blkOf sv' = some z → A.n ≤ z) : SSep A' (cells ++ new) sv' j s := by
  obtain ⟨a, h1, h2, h3⟩ := h
  refine ⟨a, fun o v ho => ?_, h2.keepB fun z hz => hA z (h2.blk_lt hz) (h3 z hz), fun z hz h => ?_⟩
  · have := h1 o v ho
    rw [List.getElem?_append_left (List.getElem?_eq_some_iff.1 this).1]; exact this
  · have := hsv z h; have := h2.blk_lt hz; omega
section
variable {g : Nat} {rd : Option Nat} {T : List Value} {D : List Nat} {A : Hp} {Q : Ex → St → Prop} {V : Value → Hp → Prop}
end
end Go.Ab.Dike
namespace Go.Ab.Dike
open Go Go.Ab
instance : Inhabited StepT := ⟨⟨⟨⟨[]⟩⟩, 0, [], 0, 0, false, false, 0⟩⟩
theorem Steps.more {rows rows' : List (List Value)} {n : Nat} {S : Nat → StepT} {sl : Value} (h : Steps (roHp rows) n S sl) (hm : More rows rows') : Steps (roHp rows') n S sl := by
  obtain ⟨cells, h1, h2⟩ := h
  refine ⟨cells, h1.more hm, fun i hi => ?_⟩
  obtain ⟨a, p1, p2, p3, p4, p5, p6, p7, p8, p9, ra⟩ := h2 i hi
  exact ⟨a, p1, p2, p3, p4, p5, p6, p7, p8, p9, ra.more hm⟩
end Go.Ab.Dike
namespace Go.Ab
open Go
def kints (k : IntKind) (l : List Int) : List Value := l.map (.int k)
@[simp] theorem kints_length (k : IntKind) (l : List Int) : (kints k l).length = l.length := List.length_map ..
theorem kints_get {k : IntKind} {l : List Int} {o : Nat} (h : o < l.length) : cellAt (kints k l) o = some (.int k (gi l o)) := by simp [kints, cellAt, gi, h]
def allK (k : IntKind) : Ty → Bool
  | .int k' => decide (k' = k)
  | .unit => true
  | .pair a b => allK k a && allK k b
  | _ => false
theorem kints_append {k : IntKind} (a b : List Int) : kints k (a ++ b) = kints k a ++ kints k b := List.map_append ..
theorem sh_k {rows : List (List Value)} {k : IntKind} : ∀ {t : Ty} {cs : List Value}, allK k t = true → Sh rows t cs → ∃ zs : List Int, cs = kints k zs ∧ ∀ z ∈ zs, k.min ≤ z ∧ z ≤ k.max
  | .int k', cs, h, ⟨n, hn, hw⟩ => by
    have e : k' = k := by simpa [allK] using h
    subst e
    exact ⟨[n], hn, fun z hz => by rw [List.mem_singleton] at hz; subst hz; exact (Lit.wf_int_iff k' z).1 hw⟩
  | .unit, cs, _, h => ⟨[], h, fun z hz => by cases hz⟩
  | .pair a b, cs, h, ⟨l, r, h1, h2, h3⟩ => by
    simp only [allK, Bool.and_eq_true] at h
    obtain ⟨za, ea, ba⟩ := sh_k h.1 h2
    obtain ⟨zb, eb, bb⟩ := sh_k h.2 h3
    refine ⟨za ++ zb, by rw [h1, ea, eb, kints_append], fun z hz => ?_⟩
    rcases List.mem_append.1 hz with h' | h'
    · exact ba z h'
    · exact bb z h'
  | .bool, _, h, _ => by simp [allK] at h
  | .str, _, h, _ => by simp [allK] at h
  | .slice _, _, h, _ => by simp [allK] at h
theorem kints_flatMap {k : IntKind} {f : Nat → List Int} {n : Nat} : (List.range n).flatMap (fun i => kints k (f i)) = kints k ((List.range n).flatMap f) := by
  simp only [kints, List.map_flatMap]
theorem sh_slice_k {rows : List (List Value)} {k : IntKind} {e : Ty} {cs : List Value} (he : allK k e = true) (h : Sh rows (.slice e) cs) :
    ∃ (n : Nat) (zs : List Int) (sl : Value), cs = [sl] ∧ RdS (roHp rows) e.size n (kints k zs) sl ∧ n ≤ maxLen ∧ ∀ z ∈ zs, k.min ≤ z ∧ z ≤ k.max := by
  rcases h with rfl | ⟨x, n, q, row, rfl, hn, hrow, hlen, hs, f, rfl, hf⟩
  · exact ⟨0, [], _, rfl, ⟨by simp [kints], .inl ⟨rfl, rfl⟩⟩, Nat.zero_le _, fun z hz => by cases hz⟩
  · obtain ⟨p, hp⟩ := Go.Deep.choose_lt (α := List Int) (p := fun i p => f i = kints k p ∧ ∀ z ∈ p, k.min ≤ z ∧ z ≤ k.max) fun i hi => sh_k he (hf i hi).1
    have e1 : (List.range n).flatMap f = kints k ((List.range n).flatMap p) := by
      rw [← kints_flatMap]
      exact Go.Deep.flatMap_congr_range fun i hi => (hp i hi).1
    refine ⟨n, (List.range n).flatMap p, _, rfl, ⟨by rw [← e1, hlen], .inr ⟨x, q, true, rfl, by rw [roHp_get, hrow, ← e1]; rfl⟩⟩, hn, fun z hz => ?_⟩
    obtain ⟨i, hi, hz⟩ := List.mem_flatMap.1 hz
    exact (hp i (by simpa using hi)).2 z hz
theorem gi_rng {l : List Int} {a b : Int} (h : ∀ z ∈ l, a ≤ z ∧ z ≤ b) (ha : a ≤ 0) (hb : 0 ≤ b) (i : Nat) : a ≤ gi l i ∧ gi l i ≤ b := by
  unfold gi
  rw [List.getD_eq_getElem?_getD]
  rcases Nat.lt_or_ge i l.length with hi | hi
  · rw [List.getElem?_eq_getElem hi]
    exact h _ (List.getElem_mem hi)
  · rw [List.getElem?_eq_none hi]
    exact ⟨ha, hb⟩
theorem sh_int {rows : List (List Value)} {k : IntKind} {cs : List Value} (h : Sh rows (.int k) cs) : ∃ n, cs = [.int k n] ∧ k.min ≤ n ∧ n ≤ k.max := by
  obtain ⟨n, h1, h2⟩ := h
  exact ⟨n, h1, (Lit.wf_int_iff k n).1 h2⟩
end Go.Ab
namespace Go.Ab.Dike
open Go Go.Ab
structure Ch (A : Hp) (X3 X1 : Nat) (k : Int) : Prop where
  next : A.get X3 = some (.cells [.int .i64 k] false)
  k0 : 0 ≤ k
  list : ∃ n zs sl ro, A.get X1 = some (.cells [sl] ro) ∧ RdS A 1 n (kints .u8 zs) sl ∧ n < 9223372036854775808 ∧ (∀ j, 0 ≤ gi zs j ∧ gi zs j ≤ 255) ∧ (∀ z, blkOf sl = some z → z ≠ X3)
  ne : X1 ≠ X3
theorem Ch.but {A A' : Hp} {X3 X1 : Nat} {k k' : Int} (h : Ch A X3 X1 k) (hb : But X3 A A') (hn : A'.get X3 = some (.cells [.int .i64 k'] false)) (hk : 0 ≤ k') : Ch A' X3 X1 k' := by
  obtain ⟨h1, h2, ⟨n, zs, sl, ro, h3, h4, h5, h6, h7⟩, h8⟩ := h
  exact ⟨hn, hk, ⟨n, zs, sl, ro, (hb.2 X1 (Hp.lt_of_get h3) h8).trans h3, h4.keepB fun z hz => hb.2 z (h4.blk_lt hz) (h7 z hz), h5, h6, h7⟩, h8⟩
theorem Ch.ext {A A' : Hp} {X3 X1 : Nat} {k : Int} (h : Ch A X3 X1 k) (he : Ext' A A') : Ch A' X3 X1 k := h.but (But.of_ext he) (he.get h.next) h.k0
def wallC (cr st toe m0 m1 m2 wear : Int) (lv wd tr : Value) : List Value := [.int .i16 cr, .int .i16 st, .int .i16 toe, .int .u8 m0, .int .u8 m1, .int .u8 m2, .int .u8 wear, lv, wd, tr]
structure WallIn (A : Hp) (cs : List Value) (n : Nat) : Prop where
  e : ∃ (cr st toe m0 m1 m2 wear : Int) (lv wd tr : Value) (m q : Nat) (xs ys us : List Int), cs = wallC cr st toe m0 m1 m2 wear lv wd tr ∧ (-32768 ≤ cr ∧ cr ≤ 32767) ∧ (-32768 ≤ st ∧ st ≤ 32767) ∧ (-32768 ≤ toe ∧ toe ≤ 32767) ∧ (0 ≤ m0 ∧ m0 ≤ 255) ∧ (0 ≤ m1 ∧ m1 ≤ 255) ∧ (0 ≤ m2 ∧ m2 ≤ 255) ∧ (0 ≤ wear ∧ wear ≤ 255) ∧
    RdS A 1 n (kints .i16 xs) lv ∧ (∀ j, -32768 ≤ gi xs j ∧ gi xs j ≤ 32767) ∧ RdS A 1 m (kints .u8 ys) wd ∧ m < 9223372036854775808 ∧ (∀ j, 0 ≤ gi ys j ∧ gi ys j ≤ 255) ∧ RdS A 1 q (kints .u8 us) tr ∧ q < 9223372036854775808 ∧ (∀ j, 0 ≤ gi us j ∧ gi us j ≤ 255)
structure WallOk (S : Sec) : Prop where
  c : -2000 < S.cl ∧ S.cl ≤ S.ch ∧ S.ch < 2300
  s : -2000 < S.sl ∧ S.sl ≤ S.sh ∧ S.sh < 2300
  t : -2000 < S.toe ∧ S.toe < 2000
  w : 0 ≤ S.wl ∧ S.wl ≤ S.wh ∧ S.wh ≤ 60
def LevOk (n : Nat) (zs : List Int) : Prop := zs.length = n * 2 ∧ ∀ j, j < n → -3000 < gi zs (j * 2) ∧ gi zs (j * 2) ≤ gi zs (j * 2 + 1) ∧ gi zs (j * 2 + 1) < 3300
theorem LevOk.next {n : Nat} {zs : List Int} {lo hi : Int} (h : LevOk n zs) (h1 : -3000 < lo) (h2 : lo ≤ hi) (h3 : hi < 3300) : LevOk (n + 1) (zs ++ [lo, hi]) := by
  obtain ⟨hl, ha⟩ := h
  refine ⟨by simp [hl]; omega, fun j hj => ?_⟩
  have g1 : ∀ o, o < zs.length → gi (zs ++ [lo, hi]) o = gi zs o := fun o ho => by unfold gi; simp [List.getD_eq_getElem?_getD, List.getElem?_append_left ho]
  rcases Nat.lt_or_ge j n with h | h
  · rw [g1 _ (by omega), g1 _ (by omega)]; exact ha j h
  · have : j = n := by omega
    subst this
    have a1 : gi (zs ++ [lo, hi]) (j * 2) = lo := by unfold gi; rw [List.getD_eq_getElem?_getD, List.getElem?_append_right (by omega), show j * 2 - zs.length = 0 by omega]; rfl
    have a2 : gi (zs ++ [lo, hi]) (j * 2 + 1) = hi := by unfold gi; rw [List.getD_eq_getElem?_getD, List.getElem?_append_right (by omega), show j * 2 + 1 - zs.length = 1 by omega]; rfl
    rw [a1, a2]; exact ⟨h1, h2, h3⟩
section
variable {g : Nat} {rd : Option Nat} {T : List Value} {D : List Nat} {A : Hp} {Q : Ex → St → Prop} {V : Value → Hp → Prop}
theorem w141 {a b : Int} (hg : g ≤ A.n) (hV : ∀ A', Ext' A A' → V (.agg ⟨[.int .i64 a, .int .i64 b]⟩) A') : WF AP KL g 141 [.int .i64 a, .int .i64 b] A V := by
  rw [WF_body (show KL 141 = none from rfl) (show AP 141 = some F141 from rfl)]
  simp (disch := as_aux_lemma => first | omega | simp only [hDs] <;> omega | simp [isCell]) [hRs, takeMarks, resA, resAll, resOne, Value.cells, F141, fillA, setRange, storeB_cells, set_push_eq]
  exact hV _ (Ext'.push A _)
end
end Go.Ab.Dike
namespace Go.Ab.Dike
open Go Go.Ab
section
variable {g : Nat} {rd : Option Nat} {T : List Value} {D : List Nat} {A : Hp} {Q : Ex → St → Prop} {V : Value → Hp → Prop}
end
end Go.Ab.Dike
namespace Go.Ab.Dike
open Go Go.Ab
structure HB (k : Nat) (s : HS) : Prop where
  a : -(2000 + 60 * (k : Int)) ≤ s.wc ∧ s.wc ≤ 2300
  b : -(2000 + 60 * (k : Int)) ≤ s.ws ∧ s.ws ≤ 2300
  c : -(2000 + 60 * (k : Int)) ≤ s.sc ∧ s.sc ≤ 2300
  d : -(2000 + 60 * (k : Int)) ≤ s.ss ∧ s.ss ≤ 2300
  may : -1 ≤ s.may ∧ s.may < k
  must : -1 ≤ s.must ∧ s.must < k
structure HStep (S : Sec) (lo hi : Int) (k : Nat) (s s' : HS) : Prop where
  a : s'.wc = if S.toe < hi then s.wc - S.wh else s.wc
  b : s'.ws = if S.toe < hi then s.ws - S.wh else s.ws
  c : s'.sc = if S.toe < lo then s.sc - S.wl else s.sc
  d : s'.ss = if S.toe < lo then s.ss - S.wl else s.ss
  may : s'.may = if s.may < 0 ∧ min s.wc s.ws < hi then (k : Int) else s.may
  must : s'.must = if s.must < 0 ∧ min s.sc s.ss < lo then (k : Int) else s.must
structure Liv (s : HS) (k : Nat) (c h f : Int) : Prop where
  a : s.wc ≤ c ∧ c ≤ s.sc
  b : s.ws ≤ h ∧ h ≤ s.ss
  f0 : -1 ≤ f ∧ f < k
  may : 0 ≤ f → 0 ≤ s.may ∧ s.may ≤ f
  must : 0 ≤ s.must → 0 ≤ f ∧ f ≤ s.must
theorem Liv.next {S : Sec} {lo hi v c h f w : Int} {k : Nat} {s s' : HS} (hl : Liv s k c h f) (hs : HStep S lo hi k s s') (hw : 0 ≤ S.wl ∧ S.wl ≤ S.wh) (hm : -1 ≤ s.may ∧ s.may < k) (hu : -1 ≤ s.must ∧ s.must < k) (hv : lo ≤ v ∧ v ≤ hi) (hw2 : S.wl ≤ w ∧ w ≤ S.wh) :
    Liv s' (k + 1) (if S.toe < v then c - w else c) (if S.toe < v then h - w else h) (if f < 0 ∧ (c < v ∨ h < v) then (k : Int) else f) := by
  obtain ⟨a, b, f0, may, must⟩ := hl
  obtain ⟨ea, eb, ec, ed, em, eu⟩ := hs
  refine ⟨⟨?_, ?_⟩, ⟨?_, ?_⟩, ?_, ?_, ?_⟩
  · rw [ea]; split <;> split <;> omega
  · rw [ec]; split <;> split <;> omega
  · rw [eb]; split <;> split <;> omega
  · rw [ed]; split <;> split <;> omega
  · split <;> omega
  · rw [em]; split <;> split <;> omega
  · rw [eu]; split <;> split <;> omega
theorem nar_may {sm pm a a' hi hi' : Int} {k : Nat} (h : 0 ≤ pm → 0 ≤ sm ∧ sm ≤ pm) (ha : a ≤ a') (hh : hi' ≤ hi) (hm : -1 ≤ sm ∧ sm < k) (hm' : -1 ≤ pm ∧ pm < k) :
    0 ≤ (if pm < 0 ∧ a' < hi' then (k : Int) else pm) → 0 ≤ (if sm < 0 ∧ a < hi then (k : Int) else sm) ∧ (if sm < 0 ∧ a < hi then (k : Int) else sm) ≤ (if pm < 0 ∧ a' < hi' then (k : Int) else pm) := by
  split <;> split <;> omega
structure Nar (s p : HS) (k : Nat) : Prop where
  a : s.wc ≤ p.wc ∧ p.wc ≤ p.sc ∧ p.sc ≤ s.sc
  b : s.ws ≤ p.ws ∧ p.ws ≤ p.ss ∧ p.ss ≤ s.ss
  may : 0 ≤ p.may → 0 ≤ s.may ∧ s.may ≤ p.may
  must : 0 ≤ s.must → 0 ≤ p.must ∧ p.must ≤ s.must
theorem Nar.next {S P : Sec} {lo hi lo' hi' : Int} {k : Nat} {s s' p p' : HS} (hn : Nar s p k) (hs : HStep S lo hi k s s') (hp : HStep P lo' hi' k p p') (ht : P.toe = S.toe) (hw : 0 ≤ S.wl ∧ S.wl ≤ P.wl ∧ P.wl ≤ P.wh ∧ P.wh ≤ S.wh) (hl : lo ≤ lo' ∧ lo' ≤ hi' ∧ hi' ≤ hi)
    (hm : -1 ≤ s.may ∧ s.may < k) (hu : -1 ≤ s.must ∧ s.must < k) (hm' : -1 ≤ p.may ∧ p.may < k) (hu' : -1 ≤ p.must ∧ p.must < k) : Nar s' p' (k + 1) := by
  obtain ⟨a, b, may, must⟩ := hn
  obtain ⟨ea, eb, ec, ed, em, eu⟩ := hs
  obtain ⟨fa, fb, fc, fd, fm, fu⟩ := hp
  rw [ht] at fa fb fc fd
  refine ⟨⟨?_, ?_, ?_⟩, ⟨?_, ?_, ?_⟩, ?_, ?_⟩
  · rw [ea, fa]; split <;> split <;> omega
  · rw [fa, fc]; split <;> split <;> omega
  · rw [ec, fc]; split <;> split <;> omega
  · rw [eb, fb]; split <;> split <;> omega
  · rw [fb, fd]; split <;> split <;> omega
  · rw [ed, fd]; split <;> split <;> omega
  · rw [em, fm]
    exact nar_may may (by omega) hl.2.2 hm hm'
  · rw [eu, fu]
    exact nar_may must (by omega) hl.1 hu' hu
structure Narrower (S P : Sec) (n : Nat) (zs ys : List Int) : Prop where
  c : S.cl ≤ P.cl ∧ P.cl ≤ P.ch ∧ P.ch ≤ S.ch
  s : S.sl ≤ P.sl ∧ P.sl ≤ P.sh ∧ P.sh ≤ S.sh
  w : S.wl ≤ P.wl ∧ P.wl ≤ P.wh ∧ P.wh ≤ S.wh
  t : P.toe = S.toe
  l : ∀ j, j < n → gi zs (j * 2) ≤ gi ys (j * 2) ∧ gi ys (j * 2) ≤ gi ys (j * 2 + 1) ∧ gi ys (j * 2 + 1) ≤ gi zs (j * 2 + 1)
end Go.Ab.Dike
namespace Go.Ab.Dike
open Go Go.Ab
section
variable {g : Nat} {rd : Option Nat} {T : List Value} {D : List Nat} {A : Hp} {Q : Ex → St → Prop} {V : Value → Hp → Prop}
structure Lists (S : Sec) (zs : List Int) (i : Nat) (cL hL : List Int) : Prop where
  lc : cL.length = i + 1
  lh : hL.length = i + 1
  all : ∀ j, j ≤ i → ((holdS S zs j).wc ≤ gi cL j ∧ gi cL j ≤ (holdS S zs j).sc) ∧ ((holdS S zs j).ws ≤ gi hL j ∧ gi hL j ≤ (holdS S zs j).ss)
theorem gi_left {l : List Int} {v : Int} {j : Nat} (h : j < l.length) : gi (l ++ [v]) j = gi l j := by unfold gi; simp [List.getD_eq_getElem?_getD, List.getElem?_append_left h]
theorem gi_last {l : List Int} {v : Int} {j : Nat} (h : j = l.length) : gi (l ++ [v]) j = v := by subst h; unfold gi; simp [List.getD_eq_getElem?_getD]
theorem Lists.next {S : Sec} {zs : List Int} {i : Nat} {cL hL : List Int} {c h f : Int} (hl : Lists S zs i cL hL) (hv : Liv (holdS S zs (i + 1)) (i + 1) c h f) : Lists S zs (i + 1) (cL ++ [c]) (hL ++ [h]) := by
  obtain ⟨l1, l2, ha⟩ := hl
  refine ⟨by simp [l1], by simp [l2], fun j hj => ?_⟩
  rcases Nat.lt_or_ge j (i + 1) with h' | h'
  · rw [gi_left (by omega), gi_left (by omega)]; exact ha j (by omega)
  · have : j = i + 1 := by omega
    subst this
    rw [gi_last (by omega), gi_last (by omega)]; exact ⟨hv.a, hv.b⟩
end
end Go.Ab.Dike
namespace Go.Ab.Dike
open Go Go.Ab
section
variable {g : Nat} {rd : Option Nat} {T : List Value} {D : List Nat} {A : Hp} {Q : Ex → St → Prop} {V : Value → Hp → Prop}
theorem w140 {a b c d : Int} (h1 : c ≤ a) (h2 : b ≤ d) (h3 : a ≤ b) (hV : ∀ A', Ext' A A' → V (.bool true) A') : WF AP KL g 140 [.agg ⟨[.int .i64 a, .int .i64 b]⟩, .agg ⟨[.int .i64 c, .int .i64 d]⟩] A V := by
  rw [WF_body (show KL 140 = none from rfl) (show AP 140 = some F140 from rfl)]
  simp (disch := as_aux_lemma => first | omega | simp only [hDs] <;> omega | simp [isCell]) [hRs, takeMarks, resA, resAll, resOne, Value.cells, F140, h1, h2, h3]
  exact hV _ ((Ext'.push A _).trans (Ext'.push _ _))
end
end Go.Ab.Dike
namespace Go.Ab.Dike
open Go Go.Ab
section
variable {g : Nat} {rd : Option Nat} {T : List Value} {D : List Nat} {A : Hp} {Q : Ex → St → Prop} {V : Value → Hp → Prop}
def NarL (n : Nat) (zs ys : List Int) : Prop := ys.length = n * 2 ∧ ∀ j, j < n → gi zs (j * 2) ≤ gi ys (j * 2) ∧ gi ys (j * 2) ≤ gi ys (j * 2 + 1) ∧ gi ys (j * 2 + 1) ≤ gi zs (j * 2 + 1)
theorem NarL.next {n : Nat} {zs ys : List Int} {a b : Int} (h : NarL n zs ys) (h1 : gi zs (n * 2) ≤ a) (h2 : a ≤ b) (h3 : b ≤ gi zs (n * 2 + 1)) : NarL (n + 1) zs (ys ++ [a, b]) := by
  obtain ⟨hl, ha⟩ := h
  refine ⟨by simp [hl]; omega, fun j hj => ?_⟩
  have g1 : ∀ o, o < ys.length → gi (ys ++ [a, b]) o = gi ys o := fun o ho => by unfold gi; simp [List.getD_eq_getElem?_getD, List.getElem?_append_left ho]
  rcases Nat.lt_or_ge j n with h | h
  · rw [g1 _ (by omega), g1 _ (by omega)]; exact ha j h
  · have : j = n := by omega
    subst this
    have a1 : gi (ys ++ [a, b]) (j * 2) = a := by unfold gi; rw [List.getD_eq_getElem?_getD, List.getElem?_append_right (by omega), show j * 2 - ys.length = 0 by omega]; rfl
    have a2 : gi (ys ++ [a, b]) (j * 2 + 1) = b := by unfold gi; rw [List.getD_eq_getElem?_getD, List.getElem?_append_right (by omega), show j * 2 + 1 - ys.length = 1 by omega]; rfl
    rw [a1, a2]; exact ⟨h1, h2, h3⟩
end
end Go.Ab.Dike
