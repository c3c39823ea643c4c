/- Gates: act and change. -/
import Derived.Test.YtlihoghjchbjlaaGreatZ11
import Derived.Test.YtlihoghjchbjlaaGreatZ10
import Derived.DataShut
set_option linter.unusedSimpArgs false
set_option linter.unusedVariables false
set_option linter.unusedSectionVars false
namespace Go.Ab.Dike
open Go Go.Ab
structure StepT where
  name : ByteArray
  an : Nat
  al : List Int
  tl : Int
  th : Int
  calm : Bool
  clear : Bool
  logs : Int
def stepC (a : Value) (s : StepT) : List Value := [.string s.name, a, .int .i64 s.tl, .int .i64 s.th, .bool s.calm, .bool s.clear, .int .i64 s.logs]
def StepAt (A : Hp) (cells : List Value) (i : Nat) (s : StepT) : Prop :=
  ∃ a, partA cells (i * 7) (some 7) = some (.agg ⟨stepC a s⟩) ∧ cellAt cells (i * 7) = some (.string s.name) ∧ cellAt cells (i * 7 + 1) = some a ∧ partA cells (i * 7 + 2) (some 2) = some (.agg ⟨[.int .i64 s.tl, .int .i64 s.th]⟩) ∧
    cellAt cells (i * 7 + 2) = some (.int .i64 s.tl) ∧ cellAt cells (i * 7 + 3) = some (.int .i64 s.th) ∧ cellAt cells (i * 7 + 4) = some (.bool s.calm) ∧ cellAt cells (i * 7 + 5) = some (.bool s.clear) ∧ cellAt cells (i * 7 + 6) = some (.int .i64 s.logs) ∧ RdS A 1 s.an (ints s.al) a
def Steps (A : Hp) (n : Nat) (S : Nat → StepT) (sl : Value) : Prop := ∃ cells, RdS A 7 n cells sl ∧ ∀ i, i < n → StepAt A cells i (S i)
theorem StepAt.mono {A A' : Hp} {cells : List Value} {i : Nat} {f : StepT} (h : StepAt A cells i f) (hA : ∀ z, z < A.n → A'.get z = A.get z) : StepAt A' cells i f := by
  obtain ⟨a, h1, h2, h3, h4, h5, h6, h7, h8, h9, h10⟩ := h
  exact ⟨a, h1, h2, h3, h4, h5, h6, h7, h8, h9, h10.mono hA⟩
theorem Steps.mono {A A' : Hp} {n : Nat} {F : Nat → StepT} {sl : Value} (h : Steps A n F sl) (hA : ∀ z, z < A.n → A'.get z = A.get z) : Steps A' n F sl := by
  obtain ⟨cells, h1, h2⟩ := h
  exact ⟨cells, h1.mono hA, fun i hi => (h2 i hi).mono hA⟩
theorem Steps.ext {A A' : Hp} {n : Nat} {F : Nat → StepT} {sl : Value} (h : Steps A n F sl) (he : Ext' A A') : Steps A' n F sl := h.mono he.2
theorem Steps.len {A : Hp} {n : Nat} {F : Nat → StepT} {sl : Value} (h : Steps A n F sl) : lenV sl = some (.int .i64 n) := by obtain ⟨_, h1, _⟩ := h; exact h1.len
theorem Steps.at {A : Hp} {n i : Nat} {F : Nat → StepT} {sl : Value} (h : Steps A n F sl) (hi : i < n) : ∃ x c ro cells, sl = .slice (some ⟨x, 0, some 7⟩) n c ∧ A.get x = some (.cells cells ro) ∧ cells.length = n * 7 ∧ ∀ j, j < n → StepAt A cells j (F j) := by
  obtain ⟨cells, h1, h2⟩ := h
  obtain ⟨x, c, ro, h3, h4⟩ := h1.at hi
  exact ⟨x, c, ro, cells, h3, h4, h1.1, h2⟩
def aftE (i : Nat) (al : List Int) (k : Nat) : Int := if gi al k < 0 ∨ (i : Int) ≤ gi al k then 4 else if gi al k ∈ al.take k then 2 else 0
def sameN (S : Nat → StepT) (i : Nat) : Bool := (List.range i).any fun k => strEq (S k).name (S i).name
def lastE (s : StepT) : Int := if validB s.tl s.th 0 100000000 = false ∨ s.logs < 0 ∨ 100 < s.logs then 3 else 0
def stpE (S : Nat → StepT) (i : Nat) : Int := if nameB (S i).name = false then 10 else if sameN S i = true then 5 else if firstE (aftE i (S i).al) (S i).an ≠ 0 then firstE (aftE i (S i).al) (S i).an else lastE (S i)
def stepsE (n : Nat) (S : Nat → StepT) : Int := if 32 < n then 9 else firstE (stpE S) n
theorem stpE_a {S : Nat → StepT} {i : Nat} (h : nameB (S i).name = false) : stpE S i = 10 := if_pos h
theorem stpE_b {S : Nat → StepT} {i : Nat} (h : nameB (S i).name = true) (h2 : sameN S i = true) : stpE S i = 5 := by rw [stpE, h, if_neg (by decide), if_pos h2]
theorem stpE_c {S : Nat → StepT} {i : Nat} {e : Int} (h : nameB (S i).name = true) (h2 : sameN S i = false) (h3 : firstE (aftE i (S i).al) (S i).an = e) (he : e ≠ 0) : stpE S i = e := by rw [stpE, h, if_neg (by decide), h2, if_neg (by decide), h3, if_pos he]
theorem stpE_d {S : Nat → StepT} {i : Nat} (h : nameB (S i).name = true) (h2 : sameN S i = false) (h3 : firstE (aftE i (S i).al) (S i).an = 0) : stpE S i = lastE (S i) := by rw [stpE, h, if_neg (by decide), h2, if_neg (by decide), h3, if_neg (by decide)]
section
variable {g : Nat} {rd : Option Nat} {T : List Value} {D : List Nat} {A : Hp} {Q : Ex → St → Prop} {V : Value → Hp → Prop}
theorem mem_take_succ {l : List Int} {i : Nat} {v : Int} (hi : i < l.length) : v ∈ l.take (i + 1) ↔ v ∈ l.take i ∨ v = gi l i := by
  rw [List.take_add_one, List.getElem?_eq_getElem hi, gi_eq hi]
  simp only [Option.toList, List.mem_append, List.mem_singleton]
theorem loop199 {n : Nat} {sl : Value} {al : List Int} {v : Int} (hsl : RdP A 1 n (ints al) sl) (hn : n < 1000000)
    (hin : ∀ T' (i : Nat), v ∈ al.take n → tget T' 4 = .int .i64 i → Q .ret ⟨T', D, A⟩) (hout : ∀ T', v ∉ al.take n → Q (.exit 0) ⟨T', D, A⟩) :
    ∀ (k i : Nat) {T : List Value}, i + k = n → v ∉ al.take i → tget T 0 = sl → tget T 1 = .int .i64 v → tget T 7 = .int .i64 n → tget T 8 = .int .i64 i → W AP KL g rd (.loop body199) ⟨T, D, A⟩ Q := by
  have hl := hsl.1
  rw [ints_length, Nat.mul_one] at hl
  intro k
  induction k with
  | zero =>
    intro i T hik hno h0 h1 h7 h8
    have : i = n := by omega
    subst this
    rw [W_loop]
    simp (disch := as_aux_lemma => first | omega | simp only [hDs] <;> omega | simp [isCell]) [hRs, takeMarks, resA, resAll, resOne, Value.cells, body199, h7, h8]
    exact hout _ hno
  | succ k ih =>
    intro i T hik hno h0 h1 h7 h8
    obtain ⟨x, c, ro, rfl, hx⟩ := hsl.at (i := i) (by omega)
    rw [W_loop]
    by_cases hv : v = gi al i
    · simp (disch := as_aux_lemma => first | omega | simp only [hDs] <;> omega | simp [isCell]) [hRs, takeMarks, resA, resAll, resOne, Value.cells, body199, h7, h8, h0, h1, show ((i : Int) < n) by omega, idxSA_ok, hx, ints_get, hv]
      refine hin _ i ?_ (by simp)
      have := (mem_take_succ (show i < al.length by omega)).2 (.inr hv)
      exact List.mem_of_mem_take (i := i + 1) (by rw [List.take_take, Nat.min_eq_left (by omega)]; exact this)
    · simp (disch := as_aux_lemma => first | omega | simp only [hDs] <;> omega | simp [isCell]) [hRs, takeMarks, resA, resAll, resOne, Value.cells, body199, h7, h8, h0, h1, show ((i : Int) < n) by omega, idxSA_ok, hx, ints_get, hv]
      exact ih (i + 1) (by omega) (fun h => ((mem_take_succ (show i < al.length by omega)).1 h).elim hno hv) (by simp [h0]) (by simp [h1]) (by simp [h7]) (by simp [wrId (n := (i : Int) + 1) (by omega) (by omega)])
theorem w169 {n : Nat} {sl : Value} {al : List Int} {v : Int} (hsl : RdP A 1 n (ints al) sl) (hn : n < 1000000) (hV : V (.bool (decide (v ∈ al.take n))) A) : WF AP KL g 169 [sl, .int .i64 v] A V := by
  rw [WF_body (show KL 169 = none from rfl) (show AP 169 = some F169 from rfl)]
  simp (disch := as_aux_lemma => first | omega | simp only [hDs] <;> omega | simp [isCell]) [hRs, takeMarks, resA, resAll, resOne, Value.cells, F169]
  rw [WF_body (show KL 199 = none from rfl) (show AP 199 = some F199 from rfl)]
  simp (disch := as_aux_lemma => first | omega | simp only [hDs] <;> omega | simp [isCell]) [hRs, takeMarks, resA, resAll, resOne, Value.cells, F199, hsl.len]
  refine loop199 (v := v) (al := al) hsl hn ?_ ?_ n 0 (by omega) (by simp) (by simp) (by simp) (by simp) (by simp)
  · intro T' i hm h4
    simp (disch := as_aux_lemma => first | omega | simp only [hDs] <;> omega | simp [isCell]) [hRs, takeMarks, resA, resAll, resOne, Value.cells, h4]
    rw [decide_eq_true hm] at hV; exact hV
  · intro T' hm
    simp (disch := as_aux_lemma => first | omega | simp only [hDs] <;> omega | simp [isCell]) [hRs, takeMarks, resA, resAll, resOne, Value.cells]
    rw [decide_eq_false hm] at hV; exact hV
theorem says168 {A0 : Hp} {X4 i n : Nat} {cells : List Value} {S : Nat → StepT} {a : Value} {s : StepT} (hX : A0.get X4 = some (.cells (stepC a s) false)) (hin : i ≤ n) (hS : ∀ j, j < n → StepAt A0 cells j (S j)) :
    Says g A0 (.func (.func 168) ⟨[]⟩ ⟨[.pointer (some ⟨X4, 0, none⟩)]⟩) i (fun k => (partA cells (k * 7) (some 7)).getD undef) (fun k => strEq (S k).name s.name) := by
  intro k hk A V he hV
  obtain ⟨b, h1, _⟩ := hS k (by omega)
  have hX' := he.get hX
  have hXn := Hp.lt_of_get hX'
  show WV AP KL g _ [(partA cells (k * 7) (some 7)).getD undef] A V
  rw [h1]
  simp (disch := as_aux_lemma => first | omega | simp only [hDs] <;> omega | simp [isCell]) [hRs, takeMarks, resA, resAll, resOne, Value.cells, stepC]
  rw [WF_body (show KL 168 = none from rfl) (show AP 168 = some F168 from rfl)]
  unfold stepC at hX'
  simp (disch := as_aux_lemma => first | omega | simp only [hDs] <;> omega | simp [isCell]) [hRs, takeMarks, resA, resAll, resOne, Value.cells, F168, hX', strOpA, strA]
  exact hV _ (Ext'.push A _)
end
end Go.Ab.Dike
namespace Go.Ab.Dike
open Go Go.Ab
def body135 : ACode := (.seq
 (.ops [
oB 13 .lss 12 11])
 (.seq
 (.cond (.t 13)
 .skip
 (.exit 0))
 (.seq
 (.block 1
 (.seq
 (.ops [
oM 14 12,
oI 15 10 12 7,
oD 16 15 7,
⟨some 4, none, [], .alloc [.string ⟨⟨[]⟩⟩, .slice none 0 0, .int .i64 0, .int .i64 0, .bool false, .bool false, .int .i64 0]⟩,
oM 3 14,
oT 4 16 7])
 (.seq
 (.block 2
 (.seq
 (.ops [
oF 18 4 0,
oL 19 18,
oA 20 166 [.t 19] false,
oP 21 (.not (.t 20)),
oM 17 21])
 (.cond (.t 17)
 (.seq
 (.ops [
oP 2 (.move (oK 10))])
 .ret)
 (.seq
 (.ops [
oM 23 0,
oM 24 3,
oP 25 (.reslice (.t 23) none (some (.t 24)) 7),
oP 26 (.makeFunc 168 [] [.t 4]),
oA 27 167 [.t 25, .t 26] false,
oM 22 27])
 (.cond (.t 22)
 (.seq
 (.ops [
oP 2 (.move (oK 5))])
 .ret)
 .skip)))))
 (.seq
 (.seq
 (.ops [
oF 28 4 1,
oL 29 28,
oP 30 (.len (.t 29)),
oP 31 (.move (oK 0))])
 (.block 3
 (.loop
 (.seq
 (.ops [
oB 32 .lss 31 30])
 (.seq
 (.cond (.t 32)
 .skip
 (.exit 3))
 (.seq
 (.block 4
 (.seq
 (.ops [
oM 33 31,
oI 34 29 31 1,
oL 35 34,
oM 5 33,
oM 6 35])
 (.block 5
 (.seq
 (.ops [
oM 37 6,
oC 38 .lss 37 0,
oM 39 38,
oN 40 39 false 6,
oN 41 39 false 3,
oQ 42 39 false (.bin .geq (.t 40) (.t 41)),
oP 43 (.pick (.t 39) (.k (.bool true)) (.t 42)),
oM 36 43])
 (.cond (.t 36)
 (.seq
 (.ops [
oP 2 (.move (oK 4))])
 .ret)
 (.seq
 (.ops [
oF 45 4 1,
oL 46 45,
oM 47 5,
oP 48 (.reslice (.t 46) none (some (.t 47)) 1),
oM 49 6,
oA 50 169 [.t 48, .t 49] false,
oM 44 50])
 (.cond (.t 44)
 (.seq
 (.ops [
oP 2 (.move (oK 2))])
 .ret)
 .skip)))))))
 (.ops [
oC 51 .add 31 1,
oM 31 51])))))))
 (.seq
 (.ops [
oF 52 4 2,
oD 53 52 2,
oA 54 160 [.t 53, .k (.int .i64 0), .k (.int .i64 100000000)] false,
oP 55 (.not (.t 54)),
oM 56 55,
oQ 57 56 false (.fieldAddr (.t 4) 6),
oQ 58 56 false (.load (.t 57) none),
oQ 59 56 false (.bin .lss (.t 58) (oK 0)),
oP 60 (.pick (.t 56) (.k (.bool true)) (.t 59)),
oM 61 60,
oQ 62 61 false (.fieldAddr (.t 4) 6),
oQ 63 61 false (.load (.t 62) none),
oQ 64 61 false (.bin .gtr (.t 63) (oK 100)),
oP 65 (.pick (.t 61) (.k (.bool true)) (.t 64))])
 (.cond (.t 65)
 (.seq
 (.ops [
oP 2 (.move (oK 3))])
 .ret)
 .skip))))))
 (.ops [
oC 66 .add 12 1,
oM 12 66]))))
theorem aftE_a {i : Nat} {al : List Int} {k : Nat} (h : gi al k < 0 ∨ (i : Int) ≤ gi al k) : aftE i al k = 4 := if_pos h
theorem aftE_b {i : Nat} {al : List Int} {k : Nat} (h : ¬ (gi al k < 0 ∨ (i : Int) ≤ gi al k)) (h2 : gi al k ∈ al.take k) : aftE i al k = 2 := by rw [aftE, if_neg h, if_pos h2]
theorem aftE_c {i : Nat} {al : List Int} {k : Nat} (h : ¬ (gi al k < 0 ∨ (i : Int) ≤ gi al k)) (h2 : gi al k ∉ al.take k) : aftE i al k = 0 := by rw [aftE, if_neg h, if_neg h2]
section
variable {g : Nat} {rd : Option Nat} {T : List Value} {D : List Nat} {A : Hp} {Q : Ex → St → Prop} {V : Value → Hp → Prop}
theorem loop135i {X4 i : Nat} {a : Value} {s : StepT} (ha : RdS A 1 s.an (ints s.al) a) (hX : A.get X4 = some (.cells (stepC a s) false)) (hn : s.an < 1000000)
    (herr : ∀ T' e, firstE (aftE i s.al) s.an = e → e ≠ 0 → tget T' 2 = .int .i64 e → Q .ret ⟨T', D, A⟩) (hend : ∀ T', firstE (aftE i s.al) s.an = 0 → KeepT [0, 3, 4, 10, 11, 12] T T' → Q (.exit 3) ⟨T', D, A⟩)
    (t3 : tget T 3 = .int .i64 i) (t4 : tget T 4 = .pointer (some ⟨X4, 0, none⟩)) :
    ∀ (k j : Nat) {T1 : List Value}, j + k = s.an → firstE (aftE i s.al) j = 0 → KeepT [0, 3, 4, 10, 11, 12] T T1 → tget T1 29 = a → tget T1 30 = .int .i64 s.an → tget T1 31 = .int .i64 j → W AP KL g rd (.loop body135i) ⟨T1, D, A⟩ Q := by
  have hl := ha.1
  rw [ints_length, Nat.mul_one] at hl
  intro k
  induction k with
  | zero =>
    intro j T1 hik hok hk t29 t30 t31
    have : j = s.an := by omega
    subst this
    rw [W_loop]
    simp (disch := as_aux_lemma => first | omega | simp only [hDs] <;> omega | simp [isCell]) [hRs, takeMarks, resA, resAll, resOne, Value.cells, body135i, t30, t31]
    exact hend _ hok (hk.trans (by simp))
  | succ k ih =>
    intro j T1 hik hok hk t29 t30 t31
    have u3 := (hk.at 3 rfl).trans t3
    have u4 := (hk.at 4 rfl).trans t4
    obtain ⟨y, c, ro, rfl, hy⟩ := ha.at (i := j) (by omega)
    have hX' := hX
    unfold stepC at hX'
    obtain ⟨v, hv⟩ : ∃ v, v = gi s.al j := ⟨_, rfl⟩
    have hyv : cellAt (ints s.al) j = some (.int .i64 v) := by rw [hv]; exact ints_get (by omega)
    have hlt : (j : Int) < s.an := by omega
    obtain ⟨n, hne⟩ : ∃ n, n = s.an := ⟨_, rfl⟩
    rw [← hne] at t29 t30 hX' hlt
    rw [W_loop]
    by_cases c1 : v < 0
    · simp (disch := as_aux_lemma => first | omega | simp only [hDs] <;> omega | simp [isCell]) [hRs, takeMarks, resA, resAll, resOne, Value.cells, body135i, u3, u4, t29, t30, t31, hlt, idxSA_ok, hy, hyv, c1]
      exact herr _ 4 (firstE_at hok (by omega) (aftE_a (.inl (by rw [← hv]; exact c1))) (by decide)) (by decide) (by simp)
    · by_cases c2 : (i : Int) ≤ v
      · simp (disch := as_aux_lemma => first | omega | simp only [hDs] <;> omega | simp [isCell]) [hRs, takeMarks, resA, resAll, resOne, Value.cells, body135i, u3, u4, t29, t30, t31, hlt, idxSA_ok, hy, hyv, c1, c2]
        exact herr _ 4 (firstE_at hok (by omega) (aftE_a (.inr (by rw [← hv]; exact c2))) (by decide)) (by decide) (by simp)
      · have hno : ¬ (gi s.al j < 0 ∨ (i : Int) ≤ gi s.al j) := by rw [← hv]; omega
        simp (disch := as_aux_lemma => first | omega | simp only [hDs] <;> omega | simp [isCell]) [hRs, takeMarks, resA, resAll, resOne, Value.cells, body135i, u3, u4, t29, t30, t31, hlt, idxSA_ok, hy, hyv, c1, c2, hX', intOfA, boundA, resl_some (show j ≤ n by omega)]
        refine w169 (n := j) (al := s.al) ⟨by rw [ints_length]; omega, .inr ⟨y, _, ro, rfl, hy⟩⟩ (by omega) ?_
        by_cases c3 : v ∈ s.al.take j
        · simp (disch := as_aux_lemma => first | omega | simp only [hDs] <;> omega | simp [isCell]) [hRs, takeMarks, resA, resAll, resOne, Value.cells, c3]
          exact herr _ 2 (firstE_at hok (by omega) (aftE_b hno (by rw [← hv]; exact c3)) (by decide)) (by decide) (by simp)
        · simp (disch := as_aux_lemma => first | omega | simp only [hDs] <;> omega | simp [isCell]) [hRs, takeMarks, resA, resAll, resOne, Value.cells, c3, t31]
          exact ih (j + 1) (by omega) (firstE_next hok (aftE_c hno (by rw [← hv]; exact c3))) (hk.trans (by simp)) (by simp [t29, hne]) (by simp [t30, hne]) (by simp [wrId (n := (j : Int) + 1) (by omega) (by omega)])
theorem loop135 {A0 : Hp} {n : Nat} {S : Nat → StepT} {sl : Value} (hsl : Steps A0 n S sl) (hn : n ≤ 32) (hS : ∀ i, i < n → (S i).name.size < 1000000 ∧ (S i).an < 1000000) (hg : g ≤ A0.n)
    (herr : ∀ T' A' e, firstE (stpE S) n = e → e ≠ 0 → Ext' A0 A' → tget T' 2 = .int .i64 e → Q .ret ⟨T', D, A'⟩) (hend : ∀ T' A', firstE (stpE S) n = 0 → Ext' A0 A' → Q (.exit 0) ⟨T', D, A'⟩) :
    ∀ (k i : Nat) {T1 : List Value} {A : Hp}, i + k = n → firstE (stpE S) i = 0 → Ext' A0 A → tget T1 0 = sl → tget T1 10 = sl → tget T1 11 = .int .i64 n → tget T1 12 = .int .i64 i → W AP KL g rd (.loop body135) ⟨T1, D, A⟩ Q := by
  intro k
  induction k with
  | zero =>
    intro i T1 A hik hok he t0 t10 t11 t12
    have : i = n := by omega
    subst this
    rw [W_loop]
    simp (disch := as_aux_lemma => first | omega | simp only [hDs] <;> omega | simp [isCell]) [hRs, takeMarks, resA, resAll, resOne, Value.cells, body135, t11, t12]
    exact hend _ A hok he
  | succ k ih =>
    intro i T1 A hik hok he t0 t10 t11 t12
    obtain ⟨x, c, ro, cells, rfl, hx, hcl, hat⟩ := (hsl.ext he).at (i := i) (by omega)
    obtain ⟨a, p1, p2, p3, p4, p5, p6, p7, p8, p9, ra⟩ := hat i (by omega)
    have hgA := Nat.le_trans hg he.1
    obtain ⟨s, hs⟩ : ∃ s, s = S i := ⟨_, rfl⟩
    have hSi := hS i (by omega)
    rw [← hs] at p1 ra hSi
    have eP := Ext'.push A (.cells (stepC a s) false)
    obtain ⟨B, hB⟩ : ∃ B, B = A.push (.cells (stepC a s) false) := ⟨_, rfl⟩
    rw [← hB] at eP
    have hBn : B.n = A.n + 1 := by rw [hB]; rfl
    have hX : B.get A.n = some (.cells (stepC a s) false) := by rw [hB, get_push_new]
    have hB' : A.push (.cells [.string s.name, a, .int .i64 s.tl, .int .i64 s.th, .bool s.calm, .bool s.clear, .int .i64 s.logs] false) = B := hB.symm
    have hX' : B.get A.n = some (.cells [.string s.name, a, .int .i64 s.tl, .int .i64 s.th, .bool s.calm, .bool s.clear, .int .i64 s.logs] false) := hX
    obtain ⟨pa, na, rfl⟩ := ra.isSlice
    have hxB := eP.get hx
    rw [W_loop]
    simp (disch := as_aux_lemma => first | omega | simp only [hDs] <;> omega | simp [isCell]) [hRs, takeMarks, resA, resAll, resOne, Value.cells, body135, t0, t10, t11, t12, show ((i : Int) < n) by omega, idxSA_ok, hx, p1, stepC, storeB_cells, setRange, set_push_eq, hB', hX']
    refine w166 hSi.1 fun A1 e1 => ?_
    have e01 := he.trans (eP.trans e1)
    have hX1 := e1.get hX
    have hX1' := e1.get hX'
    cases c1 : nameB s.name with
    | false =>
      simp (disch := as_aux_lemma => first | omega | simp only [hDs] <;> omega | simp [isCell]) [hRs, takeMarks, resA, resAll, resOne, Value.cells]
      exact herr _ _ 10 (firstE_at hok (by omega) (stpE_a (by rw [← hs]; exact c1)) (by decide)) (by decide) e01 (by simp)
    | true =>
      simp (disch := as_aux_lemma => first | omega | simp only [hDs] <;> omega | simp [isCell]) [hRs, takeMarks, resA, resAll, resOne, Value.cells, t0, intOfA, boundA, resl_some (show i ≤ n by omega)]
      refine w167 (row := cells) (p := fun k => strEq (S k).name s.name) ⟨by omega, .inr ⟨x, _, ro, rfl, e1.get hxB⟩⟩ (fun j hj => ?_) (says168 (n := n) (cells := cells) (S := S) hX1 (by omega) fun j hj => ((hat j hj).mono eP.2).mono e1.2) (by omega) fun A2 e2 => ?_
      · obtain ⟨b, h1, _⟩ := hat j (by omega)
        rw [h1]; rfl
      have hsame : (List.range i).any (fun k => strEq (S k).name s.name) = sameN S i := by rw [hs]; rfl
      have e02 := e01.trans e2
      have hX2 := e2.get hX1
      have hX2' := e2.get hX1'
      rw [hsame]
      cases c2 : sameN S i with
      | true =>
        simp (disch := as_aux_lemma => first | omega | simp only [hDs] <;> omega | simp [isCell]) [hRs, takeMarks, resA, resAll, resOne, Value.cells]
        exact herr _ _ 5 (firstE_at hok (by omega) (stpE_b (by rw [← hs]; exact c1) c2) (by decide)) (by decide) e02 (by simp)
      | false =>
        have ra2 := (eP.trans (e1.trans e2)).rdS ra
        simp (disch := as_aux_lemma => first | omega | simp only [hDs] <;> omega | simp [isCell]) [hRs, takeMarks, resA, resAll, resOne, Value.cells, hX2', ra2.len]
        refine loop135i (X4 := A.n) (i := i) (s := s) ra2 hX2 hSi.2 ?_ ?_ (T := _) ?_ ?_ s.an 0 (by omega) rfl (fun _ _ => rfl) (by simp) (by simp) (by simp)
        · intro T' e hee hne t2
          simp (disch := as_aux_lemma => first | omega | simp only [hDs] <;> omega | simp [isCell]) [hRs, takeMarks, resA, resAll, resOne, Value.cells]
          exact herr _ _ e (firstE_at hok (by omega) (stpE_c (by rw [← hs]; exact c1) c2 (by rw [← hs]; exact hee) hne) hne) hne e02 t2
        · intro T' hz hk
          have hlast : stpE S i = lastE s := by rw [hs]; exact stpE_d (by rw [← hs]; exact c1) c2 (by rw [← hs]; exact hz)
          have v0 := hk.at 0 rfl
          have v4 := hk.at 4 rfl
          have v10 := hk.at 10 rfl
          have v11 := hk.at 11 rfl
          have v12 := hk.at 12 rfl
          simp [t0, t10, t11, t12] at v0 v4 v10 v11 v12
          simp (disch := as_aux_lemma => first | omega | simp only [hDs] <;> omega | simp [isCell]) [hRs, takeMarks, resA, resAll, resOne, Value.cells, v4, hX2']
          refine w160 fun A3 n3 o3 => ?_
          have e3 : Ext' A2 A3 := ⟨by omega, o3⟩
          have hX3' := e3.get hX2'
          have bad : lastE s = 3 → ∀ T', tget T' 2 = .int .i64 3 → Q .ret ⟨T', D, A3⟩ := fun h T' t2 => herr _ _ 3 (firstE_at hok (by omega) (by rw [hlast, h]) (by decide)) (by decide) (e02.trans e3) t2
          cases c3 : validB s.tl s.th 0 100000000 with
          | false =>
            simp (disch := as_aux_lemma => first | omega | simp only [hDs] <;> omega | simp [isCell]) [hRs, takeMarks, resA, resAll, resOne, Value.cells]
            exact bad (by simp [lastE, c3]) _ (by simp)
          | true =>
            by_cases c4 : s.logs < 0
            · simp (disch := as_aux_lemma => first | omega | simp only [hDs] <;> omega | simp [isCell]) [hRs, takeMarks, resA, resAll, resOne, Value.cells, v4, hX3', c4]
              exact bad (by simp [lastE, c4]) _ (by simp)
            · by_cases c5 : 100 < s.logs
              · simp (disch := as_aux_lemma => first | omega | simp only [hDs] <;> omega | simp [isCell]) [hRs, takeMarks, resA, resAll, resOne, Value.cells, v4, hX3', c4, c5]
                exact bad (by simp [lastE, c5]) _ (by simp)
              · simp (disch := as_aux_lemma => first | omega | simp only [hDs] <;> omega | simp [isCell]) [hRs, takeMarks, resA, resAll, resOne, Value.cells, v4, hX3', v12, c4, c5]
                exact ih (i + 1) (by omega) (firstE_next hok (by rw [hlast]; simp [lastE, c3]; omega)) (e02.trans e3) (by simp [v0]) (by simp [v10]) (by simp [v11]) (by simp [wrId (n := (i : Int) + 1) (by omega) (by omega)])
        · simp
        · simp
theorem w135 {n : Nat} {S : Nat → StepT} {sl : Value} (hsl : Steps A n S sl) (hn : n < 1000000) (hS : ∀ i, i < n → (S i).name.size < 1000000 ∧ (S i).an < 1000000) (hg : g ≤ A.n) (hV : ∀ A', Ext' A A' → V (.int .i64 (stepsE n S)) A') : WF AP KL g 135 [sl] A V := by
  rw [WF_body (show KL 135 = none from rfl) (show AP 135 = some F135 from rfl)]
  by_cases c1 : (32 : Int) < n
  · have : stepsE n S = 9 := if_pos (by omega)
    simp (disch := as_aux_lemma => first | omega | simp only [hDs] <;> omega | simp [isCell]) [hRs, takeMarks, resA, resAll, resOne, Value.cells, F135, hsl.len, c1]
    rw [← this]; exact hV _ (Ext'.refl _)
  · have hE : stepsE n S = firstE (stpE S) n := if_neg (by omega)
    simp (disch := as_aux_lemma => first | omega | simp only [hDs] <;> omega | simp [isCell]) [hRs, takeMarks, resA, resAll, resOne, Value.cells, F135, hsl.len, c1]
    refine loop135 hsl (by omega) hS hg ?_ ?_ n 0 (by omega) rfl (Ext'.refl _) (by simp) (by simp) (by simp) (by simp)
    · intro T' A' e he hne ee t2
      simp (disch := as_aux_lemma => first | omega | simp only [hDs] <;> omega | simp [isCell]) [hRs, takeMarks, resA, resAll, resOne, Value.cells, t2]
      rw [← he, ← hE]; exact hV _ ee
    · intro T' A' he ee
      simp (disch := as_aux_lemma => first | omega | simp only [hDs] <;> omega | simp [isCell]) [hRs, takeMarks, resA, resAll, resOne, Value.cells]
      rw [← he, ← hE]; exact hV _ ee
end
end Go.Ab.Dike
namespace Go.Ab.Dike
open Go Go.Ab
section
variable {g : Nat} {rd : Option Nat} {T : List Value} {D : List Nat} {A : Hp} {Q : Ex → St → Prop} {V : Value → Hp → Prop}
end
end Go.Ab.Dike
namespace Go.Ab.Dike
open Go Go.Ab
def never : Int := 1099511627776
section
variable {g : Nat} {rd : Option Nat} {T : List Value} {D : List Nat} {A : Hp} {Q : Ex → St → Prop} {V : Value → Hp → Prop}
end
end Go.Ab.Dike
namespace Go.Ab.Dike
open Go Go.Ab
section
variable {g : Nat} {rd : Option Nat} {T : List Value} {D : List Nat} {A : Hp} {Q : Ex → St → Prop} {V : Value → Hp → Prop}
end
end Go.Ab.Dike
namespace Go.Ab.Dike
open Go Go.Ab
def Bd (B v : Int) : Prop := 0 ≤ v ∧ (v ≤ B ∨ v = never)
theorem Bd.max {B v u : Int} (h : Bd B v) (h' : Bd B u) (hB : B ≤ never) : Bd B (max v u) := by
  unfold Bd never at *
  omega
theorem Bd.mono {B B' v : Int} (h : Bd B v) (hB : B ≤ B') : Bd B' v := by unfold Bd at *; omega
structure Fine (n : Nat) (S : Nat → StepT) (b : Int × Int) (nw : Nat) (ws : List Int) : Prop where
  n32 : n ≤ 32
  bb : 0 ≤ b.1 ∧ b.1 ≤ 1000000000 ∧ 0 ≤ b.2 ∧ b.2 ≤ 1000000000
  ww : ∀ i, i < nw → 0 ≤ gi ws (i * 2) ∧ gi ws (i * 2 + 1) ≤ 1000000000 ∧ gi ws (i * 2) ≤ 1000000000
  tt : ∀ i, i < n → (0 ≤ (S i).tl ∧ (S i).tl ≤ 100000000) ∧ (0 ≤ (S i).th ∧ (S i).th ≤ 100000000)
  aa : ∀ i, i < n → ∀ k, k < (S i).an → 0 ≤ gi (S i).al k ∧ gi (S i).al k < i
theorem validB_iff {a b lo hi : Int} : validB a b lo hi = true ↔ a ≤ b ∧ lo ≤ a ∧ b ≤ hi := by simp [validB]
end Go.Ab.Dike
namespace Go.Ab.Dike
open Go Go.Ab
section
variable {g : Nat} {rd : Option Nat} {T : List Value} {D : List Nat} {A : Hp} {Q : Ex → St → Prop} {V : Value → Hp → Prop}
end
end Go.Ab.Dike
namespace Go.Ab.Dike
open Go Go.Ab
section
variable {g : Nat} {rd : Option Nat} {T : List Value} {D : List Nat} {A : Hp} {Q : Ex → St → Prop} {V : Value → Hp → Prop}
end
end Go.Ab.Dike
namespace Go.Ab.Dike
open Go Go.Ab
section
variable {g : Nat} {rd : Option Nat} {T : List Value} {D : List Nat} {A : Hp} {Q : Ex → St → Prop} {V : Value → Hp → Prop}
end
end Go.Ab.Dike
namespace Go.Ab.Dike
open Go Go.Ab
theorem _root_.Go.Ab.RdS.cellsAt {A : Hp} {k n : Nat} {cs : List Value} {sv : Value} (h : RdS A k n cs sv) : cellsAt A (n * k) sv = some cs := by
  obtain ⟨h0, ⟨rfl, rfl⟩ | ⟨b, c, ro, rfl, hb⟩⟩ := h
  · have : cs = [] := List.eq_nil_of_length_eq_zero (by simpa using h0)
    subst this; simp [Go.Ab.cellsAt]
  · simp only [Go.Ab.cellsAt, hb]
    rw [if_pos (by omega)]
    simp [← h0]
theorem copy_fresh {g k bytes m : Nat} {A : Hp} {cs : List Value} {src : Value} (h : RdS A k m cs src) (hcell : cs.all isCell = true) (hg : g ≤ A.n) (hk : 0 < k) (hr : m * bytes ≤ room ∧ m ≤ room) :
    ∃ Y c A', appendA g (A.push (.cells [] false)) k bytes (.slice (some ⟨A.n, 0, some k⟩) 0 0) src = some (.slice (some ⟨Y, 0, some k⟩) m c, A') ∧ Ext' A A' ∧ A'.get Y = some (.cells cs false) ∧ A.n ≤ Y := by
  have e1 := Ext'.push A (.cells [] false)
  have hc := (h.push (x := .cells [] false)).cellsAt
  obtain ⟨p, c, rfl⟩ := h.isSlice
  unfold appendA
  simp only [hc]
  rw [if_pos ⟨hcell, hk⟩]
  by_cases hm : m = 0
  · subst hm
    rw [if_pos rfl]
    refine ⟨_, _, _, rfl, e1, ?_, Nat.le_refl _⟩
    have : cs = [] := List.eq_nil_of_length_eq_zero (by have := h.1; simpa using this)
    rw [get_push_new, this]
  · rw [if_neg hm]
    simp only [get_push_new]
    rw [if_pos ⟨hg, by simpa using hr.1, by simpa using hr.2, trivial⟩, if_pos (by simp)]
    refine ⟨A.n + 1, m, ((A.push (.cells [] false)).set A.n none).push (.cells cs false), by simp, ⟨by simp; omega, fun z hz => ?_⟩, by rw [get_push_eq (by simp)], by omega⟩
    rw [get_push_old (by simp; omega), get_set_ne (by simp) (by omega), get_push_old hz]
section
variable {g : Nat} {rd : Option Nat} {T : List Value} {D : List Nat} {A : Hp} {Q : Ex → St → Prop} {V : Value → Hp → Prop}
end
end Go.Ab.Dike
namespace Go.Ab.Dike
open Go Go.Ab
section
variable {g : Nat} {rd : Option Nat} {T : List Value} {D : List Nat} {A : Hp} {Q : Ex → St → Prop} {V : Value → Hp → Prop}
end
end Go.Ab.Dike
namespace Go.Ab.Dike
open Go Go.Ab
section
variable {g : Nat} {A : Hp} {V : Value → Hp → Prop}
end
end Go.Ab.Dike
namespace Go.Ab.Dike
open Go Go.Ab
def FSep (A : Hp) (cells : List Value) (sv : Value) (j : Nat) (f : FT) : Prop :=
  ∃ a b, cellAt cells (j * 4) = some a ∧ cellAt cells (j * 4 + 1) = some b ∧ cellAt cells (j * 4 + 2) = some (.int .i64 f.may) ∧ cellAt cells (j * 4 + 3) = some (.int .i64 f.must) ∧ RdS A 2 f.cn (ints f.cz) a ∧ RdS A 2 f.sn (ints f.sz) b ∧
    (∀ z, blkOf a = some z → blkOf sv ≠ some z) ∧ (∀ z, blkOf b = some z → blkOf sv ≠ some z)
theorem FSep.at {A : Hp} {cells : List Value} {sv : Value} {j : Nat} {f : FT} (h : FSep A cells sv j f) : FateAt A cells j f := by
  obtain ⟨a, b, h1, h2, h3, h4, h5, h6, _⟩ := h
  exact ⟨a, b, part4 h1 h2 h3 h4, h1, h2, h3, h4, h5, h6⟩
theorem _root_.Go.Ab.RdS.keepB {A A' : Hp} {k n : Nat} {cs : List Value} {sv : Value} (h : RdS A k n cs sv) (hA : ∀ z, blkOf sv = some z → A'.get z = A.get z) : RdS A' k n cs sv := by
  obtain ⟨h0, h | ⟨b, c, ro, rfl, h2⟩⟩ := h
  · exact ⟨h0, .inl h⟩
  · exact ⟨h0, .inr ⟨b, c, ro, rfl, by rw [hA b rfl]; exact h2⟩⟩
theorem _root_.Go.Ab.RdS.blk_lt {A : Hp} {k n : Nat} {cs : List Value} {sv : Value} (h : RdS A k n cs sv) {z : Nat} (hz : blkOf sv = some z) : z < A.n := by
  obtain ⟨h0, ⟨rfl, _⟩ | ⟨b, c, ro, rfl, h2⟩⟩ := h
  · cases hz
  · cases hz; exact Hp.lt_of_get h2
theorem cellAt_left {cs ds : List Value} {o : Nat} {v : Value} (h : cellAt cs o = some v) : cellAt (cs ++ ds) o = some v := by
  have hl := (List.getElem?_eq_some_iff.1 (show cs[o]? = some v from h)).1
  show (cs ++ ds)[o]? = some v
  rw [List.getElem?_append_left hl]; exact h
theorem FSep.next {A A' : Hp} {cells new : List Value} {sv sv' : Value} {j : Nat} {f : FT} (h : FSep A cells sv j f) (hA : ∀ z, z < A.n → blkOf sv ≠ some z → A'.get z = A.get z) (hsv : ∀ z, blkOf sv' = some z → A.n ≤ z) : FSep A' (cells ++ new) sv' j f := by
  obtain ⟨a, b, h1, h2, h3, h4, h5, h6, h7, h8⟩ := h
  refine ⟨a, b, cellAt_left h1, cellAt_left h2, cellAt_left h3, cellAt_left h4, h5.keepB fun z hz => hA z (h5.blk_lt hz) (h7 z hz), h6.keepB fun z hz => hA z (h6.blk_lt hz) (h8 z hz), fun z hz h => ?_, fun z hz h => ?_⟩
  · have := hsv z h; have := h5.blk_lt hz; omega
  · have := hsv z h; have := h6.blk_lt hz; omega
section
variable {g : Nat} {rd : Option Nat} {T : List Value} {D : List Nat} {A : Hp} {Q : Ex → St → Prop} {V : Value → Hp → Prop}
end
end Go.Ab.Dike
namespace Go.Ab.Dike
open Go Go.Ab
theorem partA_of {cs : List Value} {o : Nat} {vs : List Value} (h : ∀ (j : Nat) v, vs[j]? = some v → cs[o + j]? = some v) (h0 : 0 < vs.length) : partA cs o (some vs.length) = some (.agg ⟨vs⟩) := by
  have hl : o + vs.length ≤ cs.length := by
    have := h (vs.length - 1) vs[vs.length - 1] (List.getElem?_eq_getElem (by omega))
    have := (List.getElem?_eq_some_iff.1 this).1
    omega
  rw [partA_some hl]
  congr 3
  apply List.ext_getElem?
  intro i
  rw [List.getElem?_take]
  by_cases hi : i < vs.length
  · rw [if_pos hi, List.getElem?_drop, List.getElem?_eq_getElem hi]
    exact h i _ (List.getElem?_eq_getElem hi)
  · rw [if_neg hi, List.getElem?_eq_none (by omega)]
def SSep (A : Hp) (cells : List Value) (sv : Value) (j : Nat) (s : StepT) : Prop :=
  ∃ a, (∀ (o : Nat) v, (stepC a s)[o]? = some v → cells[j * 7 + o]? = some v) ∧ RdS A 1 s.an (ints s.al) a ∧ (∀ z, blkOf a = some z → blkOf sv ≠ some z)
theorem stepAt_of {A : Hp} {cells : List Value} {j : Nat} {s : StepT} {a : Value} (h : ∀ (o : Nat) v, (stepC a s)[o]? = some v → cells[j * 7 + o]? = some v) (hr : RdS A 1 s.an (ints s.al) a) : StepAt A cells j s := by
  refine ⟨a, partA_of (vs := stepC a s) h (by simp [stepC]), h 0 _ rfl, h 1 _ rfl, ?_, h 2 _ rfl, h 3 _ rfl, h 4 _ rfl, h 5 _ rfl, h 6 _ rfl, hr⟩
  refine partA_of (vs := [.int .i64 s.tl, .int .i64 s.th]) (fun o v ho => ?_) (by simp)
  match o with
  | 0 => exact h 2 _ ho
  | 1 => exact h 3 _ ho
  | o + 2 => cases ho
theorem SSep.next {A A' : Hp} {cells new : List Value} {sv sv' : Value} {j : Nat} {s : StepT} (h : SSep A cells sv j s) (hA : ∀ z, z < A.n → blkOf sv ≠ some z → A'.get z = A.get z) (hsv : ∀ z, blkOf sv' = some z → A.n ≤ z) : SSep A' (cells ++ new) sv' j s := by
  obtain ⟨a, h1, h2, h3⟩ := h
  refine ⟨a, fun o v ho => ?_, h2.keepB fun z hz => hA z (h2.blk_lt hz) (h3 z hz), fun z hz h => ?_⟩
  · have := h1 o v ho
    rw [List.getElem?_append_left (List.getElem?_eq_some_iff.1 this).1]; exact this
  · have := hsv z h; have := h2.blk_lt hz; omega
section
variable {g : Nat} {rd : Option Nat} {T : List Value} {D : List Nat} {A : Hp} {Q : Ex → St → Prop} {V : Value → Hp → Prop}
end
end Go.Ab.Dike
namespace Go.Ab.Dike
open Go Go.Ab
instance : Inhabited StepT := ⟨⟨⟨⟨[]⟩⟩, 0, [], 0, 0, false, false, 0⟩⟩
theorem Steps.more {rows rows' : List (List Value)} {n : Nat} {S : Nat → StepT} {sl : Value} (h : Steps (roHp rows) n S sl) (hm : More rows rows') : Steps (roHp rows') n S sl := by
  obtain ⟨cells, h1, h2⟩ := h
  refine ⟨cells, h1.more hm, fun i hi => ?_⟩
  obtain ⟨a, p1, p2, p3, p4, p5, p6, p7, p8, p9, ra⟩ := h2 i hi
  exact ⟨a, p1, p2, p3, p4, p5, p6, p7, p8, p9, ra.more hm⟩
end Go.Ab.Dike
namespace Go.Ab
open Go
def kints (k : IntKind) (l : List Int) : List Value := l.map (.int k)
@[simp] theorem kints_length (k : IntKind) (l : List Int) : (kints k l).length = l.length := List.length_map ..
theorem kints_get {k : IntKind} {l : List Int} {o : Nat} (h : o < l.length) : cellAt (kints k l) o = some (.int k (gi l o)) := by simp [kints, cellAt, gi, h]
def allK (k : IntKind) : Ty → Bool
  | .int k' => decide (k' = k)
  | .unit => true
  | .pair a b => allK k a && allK k b
  | _ => false
theorem kints_append {k : IntKind} (a b : List Int) : kints k (a ++ b) = kints k a ++ kints k b := List.map_append ..
theorem sh_k {rows : List (List Value)} {k : IntKind} : ∀ {t : Ty} {cs : List Value}, allK k t = true → Sh rows t cs → ∃ zs : List Int, cs = kints k zs ∧ ∀ z ∈ zs, k.min ≤ z ∧ z ≤ k.max
  | .int k', cs, h, ⟨n, hn, hw⟩ => by
    have e : k' = k := by simpa [allK] using h
    subst e
    exact ⟨[n], hn, fun z hz => by rw [List.mem_singleton] at hz; subst hz; exact (Lit.wf_int_iff k' z).1 hw⟩
  | .unit, cs, _, h => ⟨[], h, fun z hz => by cases hz⟩
  | .pair a b, cs, h, ⟨l, r, h1, h2, h3⟩ => by
    simp only [allK, Bool.and_eq_true] at h
    obtain ⟨za, ea, ba⟩ := sh_k h.1 h2
    obtain ⟨zb, eb, bb⟩ := sh_k h.2 h3
    refine ⟨za ++ zb, by rw [h1, ea, eb, kints_append], fun z hz => ?_⟩
    rcases List.mem_append.1 hz with h' | h'
    · exact ba z h'
    · exact bb z h'
  | .bool, _, h, _ => by simp [allK] at h
  | .str, _, h, _ => by simp [allK] at h
  | .slice _, _, h, _ => by simp [allK] at h
theorem kints_flatMap {k : IntKind} {f : Nat → List Int} {n : Nat} : (List.range n).flatMap (fun i => kints k (f i)) = kints k ((List.range n).flatMap f) := by
  simp only [kints, List.map_flatMap]
theorem sh_slice_k {rows : List (List Value)} {k : IntKind} {e : Ty} {cs : List Value} (he : allK k e = true) (h : Sh rows (.slice e) cs) :
    ∃ (n : Nat) (zs : List Int) (sl : Value), cs = [sl] ∧ RdS (roHp rows) e.size n (kints k zs) sl ∧ n ≤ maxLen ∧ ∀ z ∈ zs, k.min ≤ z ∧ z ≤ k.max := by
  rcases h with rfl | ⟨x, n, q, row, rfl, hn, hrow, hlen, hs, f, rfl, hf⟩
  · exact ⟨0, [], _, rfl, ⟨by simp [kints], .inl ⟨rfl, rfl⟩⟩, Nat.zero_le _, fun z hz => by cases hz⟩
  · obtain ⟨p, hp⟩ := Go.Deep.choose_lt (α := List Int) (p := fun i p => f i = kints k p ∧ ∀ z ∈ p, k.min ≤ z ∧ z ≤ k.max) fun i hi => sh_k he (hf i hi).1
    have e1 : (List.range n).flatMap f = kints k ((List.range n).flatMap p) := by
      rw [← kints_flatMap]
      exact Go.Deep.flatMap_congr_range fun i hi => (hp i hi).1
    refine ⟨n, (List.range n).flatMap p, _, rfl, ⟨by rw [← e1, hlen], .inr ⟨x, q, true, rfl, by rw [roHp_get, hrow, ← e1]; rfl⟩⟩, hn, fun z hz => ?_⟩
    obtain ⟨i, hi, hz⟩ := List.mem_flatMap.1 hz
    exact (hp i (by simpa using hi)).2 z hz
theorem gi_rng {l : List Int} {a b : Int} (h : ∀ z ∈ l, a ≤ z ∧ z ≤ b) (ha : a ≤ 0) (hb : 0 ≤ b) (i : Nat) : a ≤ gi l i ∧ gi l i ≤ b := by
  unfold gi
  rw [List.getD_eq_getElem?_getD]
  rcases Nat.lt_or_ge i l.length with hi | hi
  · rw [List.getElem?_eq_getElem hi]
    exact h _ (List.getElem_mem hi)
  · rw [List.getElem?_eq_none hi]
    exact ⟨ha, hb⟩
theorem sh_int {rows : List (List Value)} {k : IntKind} {cs : List Value} (h : Sh rows (.int k) cs) : ∃ n, cs = [.int k n] ∧ k.min ≤ n ∧ n ≤ k.max := by
  obtain ⟨n, h1, h2⟩ := h
  exact ⟨n, h1, (Lit.wf_int_iff k n).1 h2⟩
end Go.Ab
namespace Go.Ab.Dike
open Go Go.Ab
structure Ch (A : Hp) (X3 X1 : Nat) (k : Int) : Prop where
  next : A.get X3 = some (.cells [.int .i64 k] false)
  k0 : 0 ≤ k
  list : ∃ n zs sl ro, A.get X1 = some (.cells [sl] ro) ∧ RdS A 1 n (kints .u8 zs) sl ∧ n < 9223372036854775808 ∧ (∀ j, 0 ≤ gi zs j ∧ gi zs j ≤ 255) ∧ (∀ z, blkOf sl = some z → z ≠ X3)
  ne : X1 ≠ X3
theorem Ch.but {A A' : Hp} {X3 X1 : Nat} {k k' : Int} (h : Ch A X3 X1 k) (hb : But X3 A A') (hn : A'.get X3 = some (.cells [.int .i64 k'] false)) (hk : 0 ≤ k') : Ch A' X3 X1 k' := by
  obtain ⟨h1, h2, ⟨n, zs, sl, ro, h3, h4, h5, h6, h7⟩, h8⟩ := h
  exact ⟨hn, hk, ⟨n, zs, sl, ro, (hb.2 X1 (Hp.lt_of_get h3) h8).trans h3, h4.keepB fun z hz => hb.2 z (h4.blk_lt hz) (h7 z hz), h5, h6, h7⟩, h8⟩
theorem Ch.ext {A A' : Hp} {X3 X1 : Nat} {k : Int} (h : Ch A X3 X1 k) (he : Ext' A A') : Ch A' X3 X1 k := h.but (But.of_ext he) (he.get h.next) h.k0
def wallC (cr st toe m0 m1 m2 wear : Int) (lv wd tr : Value) : List Value := [.int .i16 cr, .int .i16 st, .int .i16 toe, .int .u8 m0, .int .u8 m1, .int .u8 m2, .int .u8 wear, lv, wd, tr]
structure WallIn (A : Hp) (cs : List Value) (n : Nat) : Prop where
  e : ∃ (cr st toe m0 m1 m2 wear : Int) (lv wd tr : Value) (m q : Nat) (xs ys us : List Int), cs = wallC cr st toe m0 m1 m2 wear lv wd tr ∧ (-32768 ≤ cr ∧ cr ≤ 32767) ∧ (-32768 ≤ st ∧ st ≤ 32767) ∧ (-32768 ≤ toe ∧ toe ≤ 32767) ∧ (0 ≤ m0 ∧ m0 ≤ 255) ∧ (0 ≤ m1 ∧ m1 ≤ 255) ∧ (0 ≤ m2 ∧ m2 ≤ 255) ∧ (0 ≤ wear ∧ wear ≤ 255) ∧
    RdS A 1 n (kints .i16 xs) lv ∧ (∀ j, -32768 ≤ gi xs j ∧ gi xs j ≤ 32767) ∧ RdS A 1 m (kints .u8 ys) wd ∧ m < 9223372036854775808 ∧ (∀ j, 0 ≤ gi ys j ∧ gi ys j ≤ 255) ∧ RdS A 1 q (kints .u8 us) tr ∧ q < 9223372036854775808 ∧ (∀ j, 0 ≤ gi us j ∧ gi us j ≤ 255)
structure WallOk (S : Sec) : Prop where
  c : -2000 < S.cl ∧ S.cl ≤ S.ch ∧ S.ch < 2300
  s : -2000 < S.sl ∧ S.sl ≤ S.sh ∧ S.sh < 2300
  t : -2000 < S.toe ∧ S.toe < 2000
  w : 0 ≤ S.wl ∧ S.wl ≤ S.wh ∧ S.wh ≤ 60
def LevOk (n : Nat) (zs : List Int) : Prop := zs.length = n * 2 ∧ ∀ j, j < n → -3000 < gi zs (j * 2) ∧ gi zs (j * 2) ≤ gi zs (j * 2 + 1) ∧ gi zs (j * 2 + 1) < 3300
theorem LevOk.next {n : Nat} {zs : List Int} {lo hi : Int} (h : LevOk n zs) (h1 : -3000 < lo) (h2 : lo ≤ hi) (h3 : hi < 3300) : LevOk (n + 1) (zs ++ [lo, hi]) := by
  obtain ⟨hl, ha⟩ := h
  refine ⟨by simp [hl]; omega, fun j hj => ?_⟩
  have g1 : ∀ o, o < zs.length → gi (zs ++ [lo, hi]) o = gi zs o := fun o ho => by unfold gi; simp [List.getD_eq_getElem?_getD, List.getElem?_append_left ho]
  rcases Nat.lt_or_ge j n with h | h
  · rw [g1 _ (by omega), g1 _ (by omega)]; exact ha j h
  · have : j = n := by omega
    subst this
    have a1 : gi (zs ++ [lo, hi]) (j * 2) = lo := by unfold gi; rw [List.getD_eq_getElem?_getD, List.getElem?_append_right (by omega), show j * 2 - zs.length = 0 by omega]; rfl
    have a2 : gi (zs ++ [lo, hi]) (j * 2 + 1) = hi := by unfold gi; rw [List.getD_eq_getElem?_getD, List.getElem?_append_right (by omega), show j * 2 + 1 - zs.length = 1 by omega]; rfl
    rw [a1, a2]; exact ⟨h1, h2, h3⟩
section
variable {g : Nat} {rd : Option Nat} {T : List Value} {D : List Nat} {A : Hp} {Q : Ex → St → Prop} {V : Value → Hp → Prop}
theorem w141 {a b : Int} (hg : g ≤ A.n) (hV : ∀ A', Ext' A A' → V (.agg ⟨[.int .i64 a, .int .i64 b]⟩) A') : WF AP KL g 141 [.int .i64 a, .int .i64 b] A V := by
  rw [WF_body (show KL 141 = none from rfl) (show AP 141 = some F141 from rfl)]
  simp (disch := as_aux_lemma => first | omega | simp only [hDs] <;> omega | simp [isCell]) [hRs, takeMarks, resA, resAll, resOne, Value.cells, F141, fillA, setRange, storeB_cells, set_push_eq]
  exact hV _ (Ext'.push A _)
end
end Go.Ab.Dike
namespace Go.Ab.Dike
open Go Go.Ab
section
variable {g : Nat} {rd : Option Nat} {T : List Value} {D : List Nat} {A : Hp} {Q : Ex → St → Prop} {V : Value → Hp → Prop}
end
end Go.Ab.Dike
namespace Go.Ab.Dike
open Go Go.Ab
structure HB (k : Nat) (s : HS) : Prop where
  a : -(2000 + 60 * (k : Int)) ≤ s.wc ∧ s.wc ≤ 2300
  b : -(2000 + 60 * (k : Int)) ≤ s.ws ∧ s.ws ≤ 2300
  c : -(2000 + 60 * (k : Int)) ≤ s.sc ∧ s.sc ≤ 2300
  d : -(2000 + 60 * (k : Int)) ≤ s.ss ∧ s.ss ≤ 2300
  may : -1 ≤ s.may ∧ s.may < k
  must : -1 ≤ s.must ∧ s.must < k
structure HStep (S : Sec) (lo hi : Int) (k : Nat) (s s' : HS) : Prop where
  a : s'.wc = if S.toe < hi then s.wc - S.wh else s.wc
  b : s'.ws = if S.toe < hi then s.ws - S.wh else s.ws
  c : s'.sc = if S.toe < lo then s.sc - S.wl else s.sc
  d : s'.ss = if S.toe < lo then s.ss - S.wl else s.ss
  may : s'.may = if s.may < 0 ∧ min s.wc s.ws < hi then (k : Int) else s.may
  must : s'.must = if s.must < 0 ∧ min s.sc s.ss < lo then (k : Int) else s.must
structure Liv (s : HS) (k : Nat) (c h f : Int) : Prop where
  a : s.wc ≤ c ∧ c ≤ s.sc
  b : s.ws ≤ h ∧ h ≤ s.ss
  f0 : -1 ≤ f ∧ f < k
  may : 0 ≤ f → 0 ≤ s.may ∧ s.may ≤ f
  must : 0 ≤ s.must → 0 ≤ f ∧ f ≤ s.must
theorem Liv.next {S : Sec} {lo hi v c h f w : Int} {k : Nat} {s s' : HS} (hl : Liv s k c h f) (hs : HStep S lo hi k s s') (hw : 0 ≤ S.wl ∧ S.wl ≤ S.wh) (hm : -1 ≤ s.may ∧ s.may < k) (hu : -1 ≤ s.must ∧ s.must < k) (hv : lo ≤ v ∧ v ≤ hi) (hw2 : S.wl ≤ w ∧ w ≤ S.wh) :
    Liv s' (k + 1) (if S.toe < v then c - w else c) (if S.toe < v then h - w else h) (if f < 0 ∧ (c < v ∨ h < v) then (k : Int) else f) := by
  obtain ⟨a, b, f0, may, must⟩ := hl
  obtain ⟨ea, eb, ec, ed, em, eu⟩ := hs
  refine ⟨⟨?_, ?_⟩, ⟨?_, ?_⟩, ?_, ?_, ?_⟩
  · rw [ea]; split <;> split <;> omega
  · rw [ec]; split <;> split <;> omega
  · rw [eb]; split <;> split <;> omega
  · rw [ed]; split <;> split <;> omega
  · split <;> omega
  · rw [em]; split <;> split <;> omega
  · rw [eu]; split <;> split <;> omega
theorem nar_may {sm pm a a' hi hi' : Int} {k : Nat} (h : 0 ≤ pm → 0 ≤ sm ∧ sm ≤ pm) (ha : a ≤ a') (hh : hi' ≤ hi) (hm : -1 ≤ sm ∧ sm < k) (hm' : -1 ≤ pm ∧ pm < k) :
    0 ≤ (if pm < 0 ∧ a' < hi' then (k : Int) else pm) → 0 ≤ (if sm < 0 ∧ a < hi then (k : Int) else sm) ∧ (if sm < 0 ∧ a < hi then (k : Int) else sm) ≤ (if pm < 0 ∧ a' < hi' then (k : Int) else pm) := by
  split <;> split <;> omega
structure Nar (s p : HS) (k : Nat) : Prop where
  a : s.wc ≤ p.wc ∧ p.wc ≤ p.sc ∧ p.sc ≤ s.sc
  b : s.ws ≤ p.ws ∧ p.ws ≤ p.ss ∧ p.ss ≤ s.ss
  may : 0 ≤ p.may → 0 ≤ s.may ∧ s.may ≤ p.may
  must : 0 ≤ s.must → 0 ≤ p.must ∧ p.must ≤ s.must
theorem Nar.next {S P : Sec} {lo hi lo' hi' : Int} {k : Nat} {s s' p p' : HS} (hn : Nar s p k) (hs : HStep S lo hi k s s') (hp : HStep P lo' hi' k p p') (ht : P.toe = S.toe) (hw : 0 ≤ S.wl ∧ S.wl ≤ P.wl ∧ P.wl ≤ P.wh ∧ P.wh ≤ S.wh) (hl : lo ≤ lo' ∧ lo' ≤ hi' ∧ hi' ≤ hi)
    (hm : -1 ≤ s.may ∧ s.may < k) (hu : -1 ≤ s.must ∧ s.must < k) (hm' : -1 ≤ p.may ∧ p.may < k) (hu' : -1 ≤ p.must ∧ p.must < k) : Nar s' p' (k + 1) := by
  obtain ⟨a, b, may, must⟩ := hn
  obtain ⟨ea, eb, ec, ed, em, eu⟩ := hs
  obtain ⟨fa, fb, fc, fd, fm, fu⟩ := hp
  rw [ht] at fa fb fc fd
  refine ⟨⟨?_, ?_, ?_⟩, ⟨?_, ?_, ?_⟩, ?_, ?_⟩
  · rw [ea, fa]; split <;> split <;> omega
  · rw [fa, fc]; split <;> split <;> omega
  · rw [ec, fc]; split <;> split <;> omega
  · rw [eb, fb]; split <;> split <;> omega
  · rw [fb, fd]; split <;> split <;> omega
  · rw [ed, fd]; split <;> split <;> omega
  · rw [em, fm]
    exact nar_may may (by omega) hl.2.2 hm hm'
  · rw [eu, fu]
    exact nar_may must (by omega) hl.1 hu' hu
structure Narrower (S P : Sec) (n : Nat) (zs ys : List Int) : Prop where
  c : S.cl ≤ P.cl ∧ P.cl ≤ P.ch ∧ P.ch ≤ S.ch
  s : S.sl ≤ P.sl ∧ P.sl ≤ P.sh ∧ P.sh ≤ S.sh
  w : S.wl ≤ P.wl ∧ P.wl ≤ P.wh ∧ P.wh ≤ S.wh
  t : P.toe = S.toe
  l : ∀ j, j < n → gi zs (j * 2) ≤ gi ys (j * 2) ∧ gi ys (j * 2) ≤ gi ys (j * 2 + 1) ∧ gi ys (j * 2 + 1) ≤ gi zs (j * 2 + 1)
end Go.Ab.Dike
namespace Go.Ab.Dike
open Go Go.Ab
section
variable {g : Nat} {rd : Option Nat} {T : List Value} {D : List Nat} {A : Hp} {Q : Ex → St → Prop} {V : Value → Hp → Prop}
structure Lists (S : Sec) (zs : List Int) (i : Nat) (cL hL : List Int) : Prop where
  lc : cL.length = i + 1
  lh : hL.length = i + 1
  all : ∀ j, j ≤ i → ((holdS S zs j).wc ≤ gi cL j ∧ gi cL j ≤ (holdS S zs j).sc) ∧ ((holdS S zs j).ws ≤ gi hL j ∧ gi hL j ≤ (holdS S zs j).ss)
theorem gi_left {l : List Int} {v : Int} {j : Nat} (h : j < l.length) : gi (l ++ [v]) j = gi l j := by unfold gi; simp [List.getD_eq_getElem?_getD, List.getElem?_append_left h]
theorem gi_last {l : List Int} {v : Int} {j : Nat} (h : j = l.length) : gi (l ++ [v]) j = v := by subst h; unfold gi; simp [List.getD_eq_getElem?_getD]
theorem Lists.next {S : Sec} {zs : List Int} {i : Nat} {cL hL : List Int} {c h f : Int} (hl : Lists S zs i cL hL) (hv : Liv (holdS S zs (i + 1)) (i + 1) c h f) : Lists S zs (i + 1) (cL ++ [c]) (hL ++ [h]) := by
  obtain ⟨l1, l2, ha⟩ := hl
  refine ⟨by simp [l1], by simp [l2], fun j hj => ?_⟩
  rcases Nat.lt_or_ge j (i + 1) with h' | h'
  · rw [gi_left (by omega), gi_left (by omega)]; exact ha j (by omega)
  · have : j = i + 1 := by omega
    subst this
    rw [gi_last (by omega), gi_last (by omega)]; exact ⟨hv.a, hv.b⟩
end
end Go.Ab.Dike
namespace Go.Ab.Dike
open Go Go.Ab
section
variable {g : Nat} {rd : Option Nat} {T : List Value} {D : List Nat} {A : Hp} {Q : Ex → St → Prop} {V : Value → Hp → Prop}
end
end Go.Ab.Dike
namespace Go.Ab.Dike
open Go Go.Ab
section
variable {g : Nat} {rd : Option Nat} {T : List Value} {D : List Nat} {A : Hp} {Q : Ex → St → Prop} {V : Value → Hp → Prop}
def NarL (n : Nat) (zs ys : List Int) : Prop := ys.length = n * 2 ∧ ∀ j, j < n → gi zs (j * 2) ≤ gi ys (j * 2) ∧ gi ys (j * 2) ≤ gi ys (j * 2 + 1) ∧ gi ys (j * 2 + 1) ≤ gi zs (j * 2 + 1)
theorem NarL.next {n : Nat} {zs ys : List Int} {a b : Int} (h : NarL n zs ys) (h1 : gi zs (n * 2) ≤ a) (h2 : a ≤ b) (h3 : b ≤ gi zs (n * 2 + 1)) : NarL (n + 1) zs (ys ++ [a, b]) := by
  obtain ⟨hl, ha⟩ := h
  refine ⟨by simp [hl]; omega, fun j hj => ?_⟩
  have g1 : ∀ o, o < ys.length → gi (ys ++ [a, b]) o = gi ys o := fun o ho => by unfold gi; simp [List.getD_eq_getElem?_getD, List.getElem?_append_left ho]
  rcases Nat.lt_or_ge j n with h | h
  · rw [g1 _ (by omega), g1 _ (by omega)]; exact ha j h
  · have : j = n := by omega
    subst this
    have a1 : gi (ys ++ [a, b]) (j * 2) = a := by unfold gi; rw [List.getD_eq_getElem?_getD, List.getElem?_append_right (by omega), show j * 2 - ys.length = 0 by omega]; rfl
    have a2 : gi (ys ++ [a, b]) (j * 2 + 1) = b := by unfold gi; rw [List.getD_eq_getElem?_getD, List.getElem?_append_right (by omega), show j * 2 + 1 - ys.length = 1 by omega]; rfl
    rw [a1, a2]; exact ⟨h1, h2, h3⟩
end
end Go.Ab.Dike
namespace Go.Ab.Dike
open Go Go.Ab
section
variable {g : Nat} {rd : Option Nat} {T : List Value} {D : List Nat} {A : Hp} {Q : Ex → St → Prop} {V : Value → Hp → Prop}
end
end Go.Ab.Dike
namespace Go.Ab.Dike
open Go Go.Ab
structure NarS (S P : Sec) : Prop where
  c : S.cl ≤ P.cl ∧ P.cl ≤ P.ch ∧ P.ch ≤ S.ch
  s : S.sl ≤ P.sl ∧ P.sl ≤ P.sh ∧ P.sh ≤ S.sh
  w : S.wl ≤ P.wl ∧ P.wl ≤ P.wh ∧ P.wh ≤ S.wh
  t : P.toe = S.toe
section
variable {g : Nat} {rd : Option Nat} {T : List Value} {D : List Nat} {A : Hp} {Q : Ex → St → Prop} {V : Value → Hp → Prop}
end
end Go.Ab.Dike
namespace Go.Ab.Dike
open Go Go.Ab
section
variable {g : Nat} {rd : Option Nat} {T : List Value} {D : List Nat} {A : Hp} {Q : Ex → St → Prop} {V : Value → Hp → Prop}
end
end Go.Ab.Dike
namespace Go.Ab.Dike
open Go Go.Ab
section
variable {g : Nat} {A : Hp} {V : Value → Hp → Prop}
end
end Go.Ab.Dike
namespace Go.Ab.Dike
open Go Go.Ab
end Go.Ab.Dike
namespace Go.Ab.Dike
open Go Go.Ab
structure JobT where
  lo : Int
  more : Int
  after : Int
  calm : Bool
  truth : Int
def jobC (j : JobT) : List Value := [.int .u16 j.lo, .int .u16 j.more, .int .u16 j.after, .bool j.calm, .int .u16 j.truth]
def JobOk (j : JobT) : Prop := (0 ≤ j.lo ∧ j.lo ≤ 65535) ∧ (0 ≤ j.more ∧ j.more ≤ 65535) ∧ (0 ≤ j.truth ∧ j.truth ≤ 65535)
def Jobs (A : Hp) (n : Nat) (J : Nat → JobT) (sl : Value) : Prop := ∃ cells, RdS A 5 n cells sl ∧ ∀ i, i < n → partA cells (i * 5) (some 5) = some (.agg ⟨jobC (J i)⟩)
theorem Jobs.ext {A A' : Hp} {n : Nat} {J : Nat → JobT} {sl : Value} (h : Jobs A n J sl) (he : Ext' A A') : Jobs A' n J sl := by
  obtain ⟨cells, h1, h2⟩ := h
  exact ⟨cells, he.rdS h1, h2⟩
theorem Jobs.len {A : Hp} {n : Nat} {J : Nat → JobT} {sl : Value} (h : Jobs A n J sl) : lenV sl = some (.int .i64 n) := by obtain ⟨_, h1, _⟩ := h; exact h1.len
theorem Jobs.at {A : Hp} {n i : Nat} {J : Nat → JobT} {sl : Value} (h : Jobs A n J sl) (hi : i < n) : ∃ x c ro cells, sl = .slice (some ⟨x, 0, some 5⟩) n c ∧ A.get x = some (.cells cells ro) ∧ ∀ j, j < n → partA cells (j * 5) (some 5) = some (.agg ⟨jobC (J j)⟩) := by
  obtain ⟨cells, h1, h2⟩ := h
  obtain ⟨x, c, ro, h3, h4⟩ := h1.at hi
  exact ⟨x, c, ro, cells, h3, h4, h2⟩
def shrV (a : Int) (k : Nat) : Int := a.fdiv (2 ^ (min k 16))
def andV (a : Int) : Int := IntKind.wrap .u16 (BitVec.ofInt (IntKind.bits .u16) a &&& BitVec.ofInt (IntKind.bits .u16) 1).toNat
def bitB (a : Int) (k : Nat) : Bool := decide (andV (shrV a k) = 1)
theorem binA_shr16 {a : Int} {k : Nat} : binA .shr (.int .u16 a) (.int .i64 k) = some (.int .u16 (shrV a k)) := by
  simp only [binA, shA]
  rw [if_neg (by omega)]
  rfl
theorem binA_and16 {a : Int} : binA .and (.int .u16 a) (.int .u16 1) = some (.int .u16 (andV a)) := rfl
theorem binA_eql16 {a b : Int} : binA .eql (.int .u16 a) (.int .u16 b) = some (.bool (decide (a = b))) := rfl
def aftL (a : Int) (i : Nat) : List Int := ((List.range i).filter (bitB a)).map fun k : Nat => (k : Int)
theorem aftL_succ (a : Int) (i : Nat) : aftL a (i + 1) = if bitB a i then aftL a i ++ [(i : Int)] else aftL a i := by
  unfold aftL
  rw [List.range_succ, List.filter_append, List.map_append]
  by_cases h : bitB a i = true <;> simp [h]
theorem aftL_length (a : Int) : ∀ i, (aftL a i).length ≤ i
  | 0 => by simp [aftL]
  | i + 1 => by
    have := aftL_length a i
    rw [aftL_succ]
    split
    · rw [List.length_append, List.length_singleton]; omega
    · omega
def chrOf (i : Nat) : UInt8 := UInt8.ofNat (97 + i)
def nmOf (i : Nat) : ByteArray := ⟨⟨[115, chrOf i]⟩⟩
theorem wr8 {n : Int} (h0 : 0 ≤ n) (h1 : n < 256) : wr .u8 n = n := by
  rw [wr_eq, IntKind.wrap_u8]; omega
theorem toStr_one {A : Hp} {i : Nat} {ro : Bool} (hi : i < 100) : toStrA (.slice (some ⟨A.n, 0, some 1⟩) 1 1) (A.push (.cells [.int .u8 (97 + (i : Int))] ro)) = some (.string ⟨⟨[chrOf i]⟩⟩) := by
  have h1 : (0 : Int) ≤ 97 + (i : Int) ∧ 97 + (i : Int) < 256 := by omega
  have h2 : (97 + (i : Int)).toNat = 97 + i := by omega
  simp only [toStrA, cellsAt, get_push_new]
  simp [u8sOf, h1, h2, chrOf]
theorem strAdd_nm {i : Nat} : strOpA .add (.string ⟨⟨[115]⟩⟩) (.string ⟨⟨[chrOf i]⟩⟩) = some (.string (nmOf i)) := rfl
def stp (J : Nat → JobT) (a b : Nat → Int) (i : Nat) : StepT := ⟨nmOf i, (aftL (J i).after i).length, aftL (J i).after i, a i, b i, (J i).calm, false, 0⟩
def jobS (J : Nat → JobT) : Nat → StepT := stp J (fun i => (J i).lo) fun i => (J i).lo + (J i).more
def Grow (N : Nat) (A : Hp) (n : Nat) (S : Nat → StepT) (sv : Value) : Prop := ∃ cells, AccS N A 7 cells sv ∧ cells.length = n * 7 ∧ ∀ j, j < n → SSep A cells sv j (S j)
theorem Grow.steps {N : Nat} {A : Hp} {n : Nat} {S : Nat → StepT} {sv : Value} (h : Grow N A n S sv) : Steps A n S sv := by
  obtain ⟨cells, h1, h2, h3⟩ := h
  refine ⟨cells, h1.rd h2 (by decide), fun i hi => ?_⟩
  obtain ⟨a, p1, p2, _⟩ := h3 i hi
  exact stepAt_of p1 p2
theorem Grow.mono {N : Nat} {A A' : Hp} {n : Nat} {S : Nat → StepT} {sv : Value} (h : Grow N A n S sv) (he : Ext' A A') : Grow N A' n S sv := by
  obtain ⟨cells, h1, h2, h3⟩ := h
  refine ⟨cells, h1.mono he.2, h2, fun j hj => ?_⟩
  obtain ⟨a, p1, p2, p3⟩ := h3 j hj
  exact ⟨a, p1, he.rdS p2, p3⟩
def body143 : ACode := (.seq
 (.ops [
oB 11 .lss 10 9])
 (.seq
 (.cond (.t 11)
 .skip
 (.exit 0))
 (.seq
 (.block 1
 (.seq
 (.ops [
oM 12 10,
oI 13 8 10 5,
oD 14 13 5,
oP 5 (.alloc [.int .u16 0, .int .u16 0, .int .u16 0, .bool false, .int .u16 0]),
oM 4 12,
oT 5 14 5])
 (.seq
 (.ops [
oM 15 4,
oP 16 (.bin .add (oK 97) (.t 15)),
oP 17 (.toInt .u8 (.t 16)),
oP 18 (.slit 1 1 [.int .u8 0] [(0, .t 17)]),
oP 19 (.toStr (.t 18)),
⟨some 20, none, [], .strOp .add (.k (.string ⟨⟨[115]⟩⟩)) (.t 19)⟩,
oF 21 5 0,
oL 22 21,
oP 23 (.toInt .i64 (.t 22)),
oF 24 5 0,
oL 25 24,
oP 26 (.toInt .i64 (.t 25)),
oF 27 5 1,
oL 28 27,
oP 29 (.toInt .i64 (.t 28)),
oB 30 .add 26 29,
oA 31 141 [.t 23, .t 30] true,
oF 32 5 3,
oL 33 32,
⟨some 34, none, [], .build [.string ⟨⟨[]⟩⟩, .slice none 0 0, .int .i64 0, .int .i64 0, .bool false, .bool false, .int .i64 0] [(0, 1, .t 20), (2, 2, .t 31), (4, 1, .t 33)]⟩,
⟨some 6, none, [], .alloc [.string ⟨⟨[]⟩⟩, .slice none 0 0, .int .i64 0, .int .i64 0, .bool false, .bool false, .int .i64 0]⟩,
oT 6 34 7])
 (.seq
 (.seq
 (.ops [
oM 35 4,
oP 36 (.move (oK 0))])
 (.block 2
 (.loop
 (.seq
 (.ops [
oB 37 .lss 36 35])
 (.seq
 (.cond (.t 37)
 .skip
 (.exit 2))
 (.seq
 (.block 3
 (.seq
 (.ops [
oM 38 36,
oM 7 38])
 (.seq
 (.ops [
oF 39 5 2,
oL 40 39,
oM 41 7,
oB 42 .shr 40 41,
oP 43 (.bin .and (.t 42) (.k (.int .u16 1))),
oP 44 (.bin .eql (.t 43) (.k (.int .u16 1)))])
 (.cond (.t 44)
 (.ops [
oF 45 6 1,
oL 46 45,
oM 47 7,
oP 48 (.slit 1 1 [.int .i64 0] [(0, .t 47)]),
oP 49 (.append (.t 46) (.t 48) 1 8),
oF 50 6 1,
oT 50 49 1])
 .skip))))
 (.ops [
oC 51 .add 36 1,
oM 36 51])))))))
 (.ops [
oM 52 3,
oD 53 6 7,
⟨some 54, none, [], .slit 1 7 [.string ⟨⟨[]⟩⟩, .slice none 0 0, .int .i64 0, .int .i64 0, .bool false, .bool false, .int .i64 0] [(0, .t 53)]⟩,
oP 55 (.append (.t 52) (.t 54) 7 72),
oM 3 55])))))
 (.ops [
oC 56 .add 10 1,
oM 10 56]))))
section
variable {g : Nat} {rd : Option Nat} {T : List Value} {D : List Nat} {A : Hp} {Q : Ex → St → Prop} {V : Value → Hp → Prop}
theorem loop143k {A0 : Hp} {X5 X6 i : Nat} {j : JobT} {u0 u2 u3 u4 u5 u6 : Value} (hi : i < 100) (h5 : A0.get X5 = some (.cells (jobC j) false)) (h56 : X5 ≠ X6) (h6 : X6 < A0.n) (hg : g ≤ X6)
    (hQ : ∀ T' A' a, KeepT [0, 3, 4, 5, 6, 8, 9, 10] T T' → AccS A0.n A' 1 (ints (aftL j.after i)) a → A'.get X6 = some (.cells [u0, a, u2, u3, u4, u5, u6] false) → A0.n ≤ A'.n → (∀ z, z < A0.n → z ≠ X6 → A'.get z = A0.get z) → Q (.exit 2) ⟨T', D, A'⟩)
    (hc : isCell u0 = true ∧ isCell u2 = true ∧ isCell u3 = true ∧ isCell u4 = true ∧ isCell u5 = true ∧ isCell u6 = true)
    (t5 : tget T 5 = .pointer (some ⟨X5, 0, none⟩)) (t6 : tget T 6 = .pointer (some ⟨X6, 0, none⟩)) :
    ∀ (r k : Nat) {T1 : List Value} {A : Hp} {a : Value}, k + r = i → KeepT [0, 3, 4, 5, 6, 8, 9, 10] T T1 → tget T1 35 = .int .i64 i → tget T1 36 = .int .i64 k → AccS A0.n A 1 (ints (aftL j.after k)) a → A.get X6 = some (.cells [u0, a, u2, u3, u4, u5, u6] false) → A0.n ≤ A.n → (∀ z, z < A0.n → z ≠ X6 → A.get z = A0.get z) → W AP KL g rd (.loop body143k) ⟨T1, D, A⟩ Q := by
  have h5n := Hp.lt_of_get h5
  intro r
  induction r with
  | zero =>
    intro k T1 A a hkr hk t35 t36 hacc hX hn ho
    have : k = i := by omega
    subst this
    rw [W_loop]
    simp (disch := as_aux_lemma => first | omega | simp only [hDs] <;> omega | simp [isCell]) [hRs, takeMarks, resA, resAll, resOne, Value.cells, body143k, t35, t36]
    exact hQ _ _ _ (hk.trans (by simp)) hacc hX hn ho
  | succ r ih =>
    intro k T1 A a hkr hk t35 t36 hacc hX hn ho
    have v5 := (hk.at 5 rfl).trans t5
    have v6 := (hk.at 6 rfl).trans t6
    have h5' := (ho X5 h5n h56).trans h5
    have hX6n := Hp.lt_of_get hX
    have e3 := wrId (n := (k : Int) + 1) (by omega) (by omega)
    rw [W_loop]
    cases hb : bitB j.after k with
    | false =>
      have hb' : ¬ andV (shrV j.after k) = 1 := by simpa [bitB] using hb
      simp (disch := as_aux_lemma => first | omega | simp only [hDs] <;> omega | simp [isCell]) [hRs, takeMarks, resA, resAll, resOne, Value.cells, body143k, t35, t36, show ((k : Int) < i) by omega, v5, h5', jobC, binA_shr16, binA_and16, binA_eql16, hb']
      refine ih (k + 1) (a := a) (by omega) (hk.trans (by simp)) (by simp [t35]) (by simp [e3]) ?_ hX hn ho
      rw [aftL_succ, hb, if_neg (by decide)]; exact hacc
    | true =>
      have hb' : andV (shrV j.after k) = 1 := by simpa [bitB] using hb
      obtain ⟨a', A2, ha, hacc', hk2, hn2, hbl⟩ := add_keep (g := g) (bytes := 8) (n := (aftL j.after k).length) (ro := false) (new := [.int .i64 (k : Int)]) hacc (by omega) hn rfl (by decide) rfl (by simp) (by have := aftL_length j.after k; unfold room; omega)
      have hX2 := (hk2 X6 hX6n (fun h => by have := (hacc.blk_ge h).1; omega)).trans hX
      have hX2n := Hp.lt_of_get hX2
      obtain ⟨p1, q1, r1, rfl⟩ := hacc'.isSlice
      have gs : ∀ b', (A2.set X6 (some b')).get X6 = some b' := fun b' => get_set_same hX2
      simp (disch := as_aux_lemma => first | omega | simp only [hDs] <;> omega | simp [isCell]) [hRs, takeMarks, resA, resAll, resOne, Value.cells, body143k, t35, t36, show ((k : Int) < i) by omega, v5, v6, h5', hX, jobC, binA_shr16, binA_and16, binA_eql16, hb', ha, slitA, fillA, setRange, hX2, storeB_cells, hc]
      refine ih (k + 1) (a := .slice p1 q1 r1) (by omega) (hk.trans (by simp)) (by simp [t35]) (by simp [e3]) ?_ (by rw [gs]) (by simp; omega) ?_
      · rw [aftL_succ, hb, if_pos rfl, ints_append]
        exact AccS.keepB hacc' fun z hz => get_set_ne hX2n (by have := (hacc'.blk_ge hz).1; omega)
      · intro z hz hz6
        rw [get_set_ne hX2n hz6, hk2 z (by omega) (fun h => by have := (hacc.blk_ge h).1; omega)]
        exact ho z hz hz6
theorem loop143 {A0 : Hp} {n : Nat} {J : Nat → JobT} {sl : Value} (hsl : Jobs A0 n J sl) (hn : n ≤ 20) (hJ : ∀ i, JobOk (J i)) (hg : g ≤ A0.n)
    (hQ : ∀ T' A' sv, tget T' 3 = sv → Grow A0.n A' n (jobS J) sv → Ext' A0 A' → Q (.exit 0) ⟨T', D, A'⟩) :
    ∀ (r i : Nat) {T1 : List Value} {A : Hp} {sv : Value}, i + r = n → tget T1 3 = sv → tget T1 8 = sl → tget T1 9 = .int .i64 n → tget T1 10 = .int .i64 i → Grow A0.n A i (jobS J) sv → Ext' A0 A → W AP KL g rd (.loop body143) ⟨T1, D, A⟩ Q := by
  intro r
  induction r with
  | zero =>
    intro i T1 A sv hir t3 t8 t9 t10 hG he
    have : i = n := by omega
    subst this
    rw [W_loop]
    simp (disch := as_aux_lemma => first | omega | simp only [hDs] <;> omega | simp [isCell]) [hRs, takeMarks, resA, resAll, resOne, Value.cells, body143, t9, t10]
    exact hQ _ _ sv (by simp [t3]) hG he
  | succ r ih =>
    intro i T1 A sv hir t3 t8 t9 t10 hG he
    obtain ⟨x, c, ro, row, rfl, hx, hat⟩ := (hsl.ext he).at (i := i) (by omega)
    have hA0 := he.1
    obtain ⟨j, hj⟩ : ∃ j, j = J i := ⟨_, rfl⟩
    have hp := hat i (by omega)
    rw [← hj] at hp
    obtain ⟨⟨l0, l1⟩, ⟨m0, m1⟩, _⟩ : JobOk j := hj ▸ hJ i
    have e1 := wrId (n := (i : Int) + 1) (by omega) (by omega)
    have e2 := wrId (n := 97 + (i : Int)) (by omega) (by omega)
    have e3 := wr8 (n := 97 + (i : Int)) (by omega) (by omega)
    have e4 := wrId (n := j.lo) (by omega) (by omega)
    have e5 := wrId (n := j.more) (by omega) (by omega)
    have e6 := wrId (n := j.lo + j.more) (by omega) (by omega)
    obtain ⟨B, hB⟩ : ∃ B, B = A.push (.cells (jobC j) false) := ⟨_, rfl⟩
    have hBn : B.n = A.n + 1 := by rw [hB]; rfl
    have eB : Ext' A B := by rw [hB]; exact Ext'.push A _
    have hX5 : B.get A.n = some (.cells (jobC j) false) := by rw [hB, get_push_new]
    have hX5' := hX5
    unfold jobC at hX5'
    have hB' : A.push (.cells [.int .u16 j.lo, .int .u16 j.more, .int .u16 j.after, .bool j.calm, .int .u16 j.truth] false) = B := hB.symm
    have eC : Ext' B (B.push (.cells [.int .u8 (97 + (i : Int))] false)) := Ext'.push B _
    have hX5c := eC.get hX5'
    have ts := toStr_one (A := B) (i := i) (ro := false) (by omega)
    have nm := strAdd_nm (i := i)
    rw [W_loop]
    simp (disch := as_aux_lemma => first | omega | simp only [hDs] <;> omega | simp [isCell]) [hRs, takeMarks, resA, resAll, resOne, Value.cells, body143, t3, t8, t9, t10, show ((i : Int) < n) by omega, idxSA_ok, hx, hp, jobC, storeB_cells, setRange, set_push_eq, hB', hX5', hX5c, e2, e3, toIntA, slitA, fillA, ts, nm, e4, e5, e6]
    refine w141 (by simp only [Hp.n_push]; omega) fun A1 ea => ?_
    have na := ea.1
    simp only [Hp.n_push] at na
    have eA1 := eC.trans ea
    have hX51 := eA1.get hX5'
    have hX51n := Hp.lt_of_get hX51
    simp (disch := as_aux_lemma => first | omega | simp only [hDs] <;> omega | simp [isCell]) [hRs, takeMarks, resA, resAll, resOne, Value.cells, hX51, fillA, setRange, storeB_cells, set_push_eq]
    obtain ⟨A2, hA2⟩ : ∃ A2, A2 = A1.push (.cells [.string (nmOf i), .slice none 0 0, .int .i64 j.lo, .int .i64 (j.lo + j.more), .bool j.calm, .bool false, .int .i64 0] false) := ⟨_, rfl⟩
    rw [← hA2]
    have e2' : Ext' A1 A2 := by rw [hA2]; exact Ext'.push A1 _
    have hA2n : A2.n = A1.n + 1 := by rw [hA2]; rfl
    have hX62 : A2.get A1.n = some (.cells [.string (nmOf i), .slice none 0 0, .int .i64 j.lo, .int .i64 (j.lo + j.more), .bool j.calm, .bool false, .int .i64 0] false) := by rw [hA2, get_push_new]
    have hX52 := (eA1.trans e2').get hX5
    have e02 := eB.trans (eA1.trans e2')
    refine loop143k (A0 := A2) (X5 := A.n) (X6 := A1.n) (i := i) (j := j) (by omega) hX52 (by omega) (by omega) (by omega) ?_ ⟨rfl, rfl, rfl, rfl, rfl, rfl⟩ (T := _) ?_ ?_ i 0 (a := .slice none 0 0) (by omega) (fun _ _ => rfl) (by simp) (by simp) AccS.nil hX62 (Nat.le_refl _) (fun _ _ _ => rfl)
    · intro T3 A3 a k3 hacc hX6 hn3 ho3
      have v3 := k3.at 3 rfl
      have v6 := k3.at 6 rfl
      have v8 := k3.at 8 rfl
      have v9 := k3.at 9 rfl
      have v10 := k3.at 10 rfl
      simp [t3, t8, t9, t10] at v3 v6 v8 v9 v10
      obtain ⟨cells, g1, g2, g3⟩ := hG
      have hsvn : ∀ z, blkOf sv = some z → z < A.n := fun z hz => (g1.blk_ge hz).2
      have ho03 : ∀ z, z < A.n → A3.get z = A.get z := fun z hz => by rw [ho3 z (by omega) (by omega), e02.2 z hz]
      have s : StepT := ⟨nmOf i, (aftL j.after i).length, aftL j.after i, j.lo, j.lo + j.more, j.calm, false, 0⟩
      have hn03 : A.n ≤ A3.n := by have := e02.1; omega
      obtain ⟨sv', A4, ha4, hacc4, hk4, hn4, hb4⟩ := add_keep (g := g) (bytes := 72) (n := i) (ro := false) (new := stepC a (jobS J i)) (g1.mono ho03) hg (by omega) rfl (by decide) (by obtain ⟨_, _, _, rfl⟩ := hacc.isSlice; rfl) g2 (by unfold room; omega)
      have ra : RdS A3 1 (aftL j.after i).length (ints (aftL j.after i)) a := hacc.rd (by simp) (by decide)
      have han : ∀ z, blkOf a = some z → A2.n ≤ z := fun z hz => (hacc.blk_ge hz).1
      have ha4' := ha4
      simp only [stepC, jobS, stp, ← hj] at ha4'
      obtain ⟨pa, qa, ca, rfl⟩ := hacc.isSlice
      have hpp : partA [.string (nmOf i), .slice pa qa ca, .int .i64 j.lo, .int .i64 (j.lo + j.more), .bool j.calm, .bool false, .int .i64 0] 0 (some 7) = some (.agg ⟨[.string (nmOf i), .slice pa qa ca, .int .i64 j.lo, .int .i64 (j.lo + j.more), .bool j.calm, .bool false, .int .i64 0]⟩) := rfl
      simp (disch := as_aux_lemma => first | omega | simp only [hDs] <;> omega | simp [isCell]) [hRs, takeMarks, resA, resAll, resOne, Value.cells, v3, v6, v8, v9, v10, hX6, hpp, slitA, fillA, setRange, ha4']
      refine ih (i + 1) (sv := sv') (by omega) (by simp) (by simp [v8]) (by simp [v9]) (by simp [e1]) ⟨_, hacc4, by simp [g2, stepC]; omega, fun q hq => ?_⟩ ⟨by omega, fun z hz => ?_⟩
      · have hsv : ∀ z, blkOf sv' = some z → A3.n ≤ z := fun z hz => by rw [hb4] at hz; cases hz; omega
        by_cases hqi : q = i
        · subst hqi
          have hne : ∀ z, blkOf (.slice pa qa ca) = some z → blkOf sv ≠ some z := fun z hz h => by have := han z hz; have := hsvn z h; have := e02.1; omega
          refine (show SSep _ _ sv' q (jobS J q) from ⟨.slice pa qa ca, fun o v ho => ?_, ?_, fun z hz h => ?_⟩)
          · rw [List.getElem?_append_right (by omega), show q * 7 + o - cells.length = o by omega]; exact ho
          · have : jobS J q = ⟨nmOf q, (aftL j.after q).length, aftL j.after q, j.lo, j.lo + j.more, j.calm, false, 0⟩ := by simp [jobS, stp, hj]
            rw [this]
            exact ra.keepB fun z hz => hk4 z (ra.blk_lt hz) (hne z hz)
          · have := hsv z h; have := ra.blk_lt hz; omega
        · have hS := g3 q (by omega)
          obtain ⟨a', h1, h2, h3⟩ := hS
          refine SSep.next (A := A3) ⟨a', h1, h2.keepB fun z hz => ho03 z (h2.blk_lt hz), h3⟩ (fun z hz hzs => hk4 z hz hzs) hsv
      · rw [hk4 z (by omega) (fun h => by have := (g1.blk_ge h).1; omega), ho03 z (by omega), he.2 z hz]
    · simp
    · simp
theorem w143 {n : Nat} {J : Nat → JobT} {sl : Value} (hsl : Jobs A n J sl) (hn : n ≤ 20) (hJ : ∀ i, JobOk (J i)) (hg : g ≤ A.n) (hV : ∀ A' sv, Grow A.n A' n (jobS J) sv → Ext' A A' → V sv A') : WF AP KL g 143 [sl] A V := by
  rw [WF_body (show KL 143 = none from rfl) (show AP 143 = some F143 from rfl)]
  simp (disch := as_aux_lemma => first | omega | simp only [hDs] <;> omega | simp [isCell]) [hRs, takeMarks, resA, resAll, resOne, Value.cells, F143, hsl.len]
  refine loop143 hsl hn hJ hg ?_ n 0 (sv := .slice none 0 0) (by omega) (by simp) (by simp) (by simp) (by simp) ⟨[], AccS.nil, rfl, fun j hj => absurd hj (by omega)⟩ (Ext'.refl _)
  intro T' A' sv t3 hG he
  simp (disch := as_aux_lemma => first | omega | simp only [hDs] <;> omega | simp [isCell]) [hRs, takeMarks, resA, resAll, resOne, Value.cells, t3]
  exact hV A' sv hG he
end
end Go.Ab.Dike
namespace Go.Ab.Dike
open Go Go.Ab
section
variable {g : Nat} {rd : Option Nat} {T : List Value} {D : List Nat} {A : Hp} {Q : Ex → St → Prop} {V : Value → Hp → Prop}
end
end Go.Ab.Dike
namespace Go.Ab.Dike
open Go Go.Ab
theorem firstE_zero {f : Nat → Int} : ∀ {n : Nat}, (∀ i, i < n → f i = 0) → firstE f n = 0
  | 0, _ => rfl
  | n + 1, h => firstE_next (firstE_zero fun i hi => h i (by omega)) (h n (by omega))
theorem aftL_mem {a v : Int} {i : Nat} (h : v ∈ aftL a i) : 0 ≤ v ∧ v < i := by
  obtain ⟨k, hk, rfl⟩ := List.mem_map.1 h
  have := List.mem_range.1 (List.mem_filter.1 hk).1
  omega
theorem aftL_sorted (a : Int) (i : Nat) : (aftL a i).Pairwise (· < ·) := by
  unfold aftL
  refine List.Pairwise.map _ (R := fun x y : Nat => x < y) (fun x y h => by omega) ?_
  exact List.Pairwise.filter _ List.pairwise_lt_range
theorem aftL_at {a : Int} {i k : Nat} (h : k < (aftL a i).length) : (0 ≤ gi (aftL a i) k ∧ gi (aftL a i) k < i) ∧ gi (aftL a i) k ∉ (aftL a i).take k := by
  rw [gi_eq h]
  refine ⟨aftL_mem (List.getElem_mem h), fun hm => ?_⟩
  obtain ⟨j, hj, e⟩ := List.getElem_of_mem hm
  rw [List.getElem_take] at e
  have hjk : j < k := by have := hj; rw [List.length_take] at this; omega
  have := (List.pairwise_iff_getElem.1 (aftL_sorted a i)) j k (by omega) h hjk
  omega
theorem nm_ok : ∀ i, i < 10 → nameB (nmOf i) = true := by
  intro i hi
  have : i = 0 ∨ i = 1 ∨ i = 2 ∨ i = 3 ∨ i = 4 ∨ i = 5 ∨ i = 6 ∨ i = 7 ∨ i = 8 ∨ i = 9 := by omega
  rcases this with h | h | h | h | h | h | h | h | h | h <;> subst h <;> decide
theorem nm_ne {i k : Nat} (hi : i < 10) (hk : k < i) : strEq (nmOf k) (nmOf i) = false := by
  rw [Bool.eq_false_iff]
  intro h
  rw [strEq_iff] at h
  have h2 : chrOf k = chrOf i := by
    unfold nmOf at h
    injection h with h
    injection h with h
    injection h with _ h
    injection h
  have h3 := congrArg UInt8.toNat h2
  simp [chrOf] at h3
  omega
structure WinOk (ws : List Int) (nw : Nat) : Prop where
  bd : ∀ i, i < nw → 0 ≤ gi ws (i * 2) ∧ gi ws (i * 2) ≤ gi ws (i * 2 + 1) ∧ gi ws (i * 2 + 1) ≤ 1000000000
  ord : ∀ i j, i < j → j < nw → gi ws (i * 2 + 1) < gi ws (j * 2)
theorem WinOk.ww {ws : List Int} {nw : Nat} (h : WinOk ws nw) : ∀ i, i < nw → 0 ≤ gi ws (i * 2) ∧ gi ws (i * 2 + 1) ≤ 1000000000 ∧ gi ws (i * 2) ≤ 1000000000 := fun i hi => by have := h.bd i hi; omega
def WSub (ws : List Int) (nw : Nat) (ws' : List Int) (nw' : Nat) : Prop := ∀ j, j < nw' → ∃ i, i < nw ∧ gi ws (i * 2) = gi ws' (j * 2) ∧ gi ws (i * 2 + 1) = gi ws' (j * 2 + 1)
theorem WSub.refl (ws : List Int) (nw : Nat) : WSub ws nw ws nw := fun j hj => ⟨j, hj, rfl, rfl⟩
section
variable {J : Nat → JobT} {t t' : Nat → Int} {b b' : Int} {ws ws' : List Int} {nw nw' : Nat}
end
end Go.Ab.Dike
namespace Go.Ab.Dike
open Go Go.Ab
section
variable {g : Nat} {rd : Option Nat} {T : List Value} {D : List Nat} {A : Hp} {Q : Ex → St → Prop} {V : Value → Hp → Prop}
end
end Go.Ab.Dike
namespace Go.Ab.Dike
open Go Go.Ab
section
variable {g : Nat} {rd : Option Nat} {T : List Value} {D : List Nat} {A : Hp} {Q : Ex → St → Prop} {V : Value → Hp → Prop}
end
end Go.Ab.Dike
namespace Go.Ab.Dike
open Go Go.Ab
theorem _root_.Go.Ab.AccS.row {N n k : Nat} {A : Hp} {cs : List Value} {sv : Value} (h : AccS N A k cs sv) (hl : cs.length = n * k) (hn : 0 < n) (hk : 0 < k) : ∃ X, sv = .slice (some ⟨X, 0, some k⟩) n n ∧ A.get X = some (.cells cs false) ∧ N ≤ X := by
  rcases h with ⟨_, rfl⟩ | ⟨b, m, rfl, hb, hN, hm, _⟩
  · have := Nat.mul_pos hn hk
    simp at hl; omega
  · have : m = n := Nat.eq_of_mul_eq_mul_right hk (hm.symm.trans hl)
    subst this
    exact ⟨b, rfl, hb, hN⟩
def tset1 (S : Nat → StepT) (i : Nat) (v w : Int) (j : Nat) : StepT := if j = i then { S j with tl := v, th := w } else S j
theorem Grow.row {N n i : Nat} {A : Hp} {S : Nat → StepT} {sv : Value} (h : Grow N A n S sv) (hi : i < n) : ∃ X cells, sv = .slice (some ⟨X, 0, some 7⟩) n n ∧ A.get X = some (.cells cells false) ∧ N ≤ X ∧ cells.length = n * 7 ∧ cellAt cells (i * 7 + 2) = some (.int .i64 (S i).tl) ∧ cellAt cells (i * 7 + 3) = some (.int .i64 (S i).th) ∧
    ∀ (v w : Int) (A' : Hp), A'.get X = some (.cells (setRange (setRange cells (i * 7 + 2) [.int .i64 v]) (i * 7 + 3) [.int .i64 w]) false) → (∀ z, z < A.n → z ≠ X → A'.get z = A.get z) → Grow N A' n (tset1 S i v w) sv := by
  obtain ⟨cells, h1, h2, h3⟩ := h
  obtain ⟨X, rfl, hX, hN⟩ := h1.row h2 (by omega) (by decide)
  obtain ⟨ai, q1, _, _⟩ := h3 i hi
  refine ⟨X, cells, rfl, hX, hN, h2, q1 2 _ rfl, q1 3 _ rfl, fun v w A' hX' ho => ?_⟩
  have l1 : (setRange cells (i * 7 + 2) [.int .i64 v]).length = cells.length := setRange_length (by simp; omega)
  have l2 : (setRange (setRange cells (i * 7 + 2) [.int .i64 v]) (i * 7 + 3) [.int .i64 w]).length = cells.length := (setRange_length (by simp; omega)).trans l1
  have hat : ∀ q, (setRange (setRange cells (i * 7 + 2) [.int .i64 v]) (i * 7 + 3) [.int .i64 w])[q]? = if q = i * 7 + 3 then some (.int .i64 w) else if q = i * 7 + 2 then some (.int .i64 v) else cells[q]? := fun q => by
    rw [setRange_get (by simp; omega), setRange_get (by simp; omega)]
    simp only [List.length_singleton]
    by_cases c1 : q = i * 7 + 3
    · rw [if_pos (by omega), if_pos c1, show q - (i * 7 + 3) = 0 by omega]; rfl
    · rw [if_neg (by omega), if_neg c1]
      by_cases c2 : q = i * 7 + 2
      · rw [if_pos (by omega), if_pos c2, show q - (i * 7 + 2) = 0 by omega]; rfl
      · rw [if_neg (by omega), if_neg c2]
  refine ⟨_, .inr ⟨X, n, rfl, hX', hN, by omega, by omega⟩, by omega, fun j hj => ?_⟩
  obtain ⟨a, p1, p2, p3⟩ := h3 j hj
  have hr : ∀ z, blkOf a = some z → A'.get z = A.get z := fun z hz => ho z (p2.blk_lt hz) (fun h => p3 z hz (by rw [h]; rfl))
  by_cases hji : j = i
  · subst hji
    refine (show SSep _ _ _ j (tset1 S j v w j) from ⟨a, fun o x hx => ?_, ?_, p3⟩)
    · rw [hat]
      rw [tset1, if_pos rfl] at hx
      match o with
      | 0 => rw [if_neg (by omega), if_neg (by omega)]; exact p1 0 _ hx
      | 1 => rw [if_neg (by omega), if_neg (by omega)]; exact p1 1 _ hx
      | 2 => rw [if_neg (by omega), if_pos (by omega)]; exact hx
      | 3 => rw [if_pos (by omega)]; exact hx
      | 4 => rw [if_neg (by omega), if_neg (by omega)]; exact p1 4 _ hx
      | 5 => rw [if_neg (by omega), if_neg (by omega)]; exact p1 5 _ hx
      | 6 => rw [if_neg (by omega), if_neg (by omega)]; exact p1 6 _ hx
      | o + 7 => cases hx
    · rw [tset1, if_pos rfl]
      exact p2.keepB hr
  · refine (show SSep _ _ _ j (tset1 S i v w j) from ?_)
    rw [tset1, if_neg hji]
    refine ⟨a, fun o x hx => ?_, p2.keepB hr, p3⟩
    have := p1 o x hx
    have ho7 : o < 7 := by
      have := (List.getElem?_eq_some_iff.1 hx).1
      simpa [stepC] using this
    rw [hat, if_neg (by omega), if_neg (by omega)]; exact this
theorem Grow.same {N n : Nat} {A : Hp} {S S' : Nat → StepT} {sv : Value} (h : Grow N A n S sv) (hs : ∀ j, j < n → S j = S' j) : Grow N A n S' sv := by
  obtain ⟨cells, h1, h2, h3⟩ := h
  exact ⟨cells, h1, h2, fun j hj => hs j hj ▸ h3 j hj⟩
section
variable {g : Nat} {rd : Option Nat} {T : List Value} {D : List Nat} {A : Hp} {Q : Ex → St → Prop} {V : Value → Hp → Prop}
end
end Go.Ab.Dike
namespace Go.Ab.Dike
open Go Go.Ab
section
variable {g : Nat} {A : Hp} {V : Value → Hp → Prop}
end
end Go.Ab.Dike
namespace Go.Ab.Dike
open Go Go.Ab
instance : Inhabited JobT := ⟨⟨0, 0, 0, false, 0⟩⟩
def tJob : Ty := .pair (.int .u16) (.pair (.int .u16) (.pair (.int .u16) (.pair .bool (.pair (.int .u16) .unit))))
theorem u16_rng {n : Int} (h : IntKind.u16.min ≤ n ∧ n ≤ IntKind.u16.max) : 0 ≤ n ∧ n ≤ 65535 := by
  have e1 : IntKind.u16.min = 0 := by decide
  have e2 : IntKind.u16.max = 65535 := by decide
  rw [e1, e2] at h; exact h
theorem u8_rng {n : Int} (h : IntKind.u8.min ≤ n ∧ n ≤ IntKind.u8.max) : 0 ≤ n ∧ n ≤ 255 := by
  have e1 : IntKind.u8.min = 0 := by decide
  have e2 : IntKind.u8.max = 255 := by decide
  rw [e1, e2] at h; exact h
theorem sh_job {rows : List (List Value)} {cs : List Value} (h : Sh rows tJob cs) : ∃ j : JobT, cs = jobC j ∧ JobOk j := by
  obtain ⟨_, _, rfl, h1, ⟨_, _, rfl, h2, ⟨_, _, rfl, h3, ⟨_, _, rfl, ⟨calm, rfl⟩, ⟨_, _, rfl, h5, rfl⟩⟩⟩⟩⟩ := h
  obtain ⟨a, rfl, ha⟩ := sh_int h1
  obtain ⟨b, rfl, hb⟩ := sh_int h2
  obtain ⟨c, rfl, _⟩ := sh_int h3
  obtain ⟨d, rfl, hd⟩ := sh_int h5
  exact ⟨⟨a, b, c, calm, d⟩, rfl, u16_rng ha, u16_rng hb, u16_rng hd⟩
theorem sh_jobs {rows : List (List Value)} {cs : List Value} (h : Sh rows (.slice tJob) cs) : ∃ (n : Nat) (J : Nat → JobT) (sl : Value), cs = [sl] ∧ Jobs (roHp rows) n J sl ∧ ∀ i, JobOk (J i) := by
  have hd : JobOk default := ⟨⟨by decide, by decide⟩, ⟨by decide, by decide⟩, ⟨by decide, by decide⟩⟩
  rcases h with rfl | ⟨x, n, q, row, rfl, hn, hrow, hlen, _, f, rfl, hf⟩
  · exact ⟨0, fun _ => default, _, rfl, ⟨[], ⟨rfl, .inl ⟨rfl, rfl⟩⟩, fun i hi => absurd hi (by omega)⟩, fun _ => hd⟩
  · obtain ⟨p, hp⟩ := Go.Deep.choose_lt (α := JobT) (p := fun i p => f i = jobC p ∧ JobOk p) fun i hi => sh_job (hf i hi).1
    refine ⟨n, fun i => if i < n then p i else default, _, rfl, ⟨(List.range n).flatMap f, ⟨hlen, .inr ⟨x, q, true, rfl, by rw [roHp_get, hrow]; rfl⟩⟩, fun i hi => ?_⟩, fun i => ?_⟩
    · simp only [if_pos hi]
      have hl : ∀ q, q < n → (f q).length = 5 := fun q hq => (hf q hq).2
      refine partA_of (vs := jobC (p i)) (fun o v ho => ?_) (by simp [jobC])
      have ho' : o < 5 := by
        have := (List.getElem?_eq_some_iff.1 ho).1
        simpa [jobC] using this
      rw [flat_get hl hi ho', (hp i hi).1]; exact ho
    · simp only
      split
      · rename_i hi; exact (hp i hi).2
      · exact hd
theorem Jobs.more {rows rows' : List (List Value)} {n : Nat} {J : Nat → JobT} {sl : Value} (h : Jobs (roHp rows) n J sl) (hm : More rows rows') : Jobs (roHp rows') n J sl := by
  obtain ⟨cells, h1, h2⟩ := h
  exact ⟨cells, h1.more hm, h2⟩
end Go.Ab.Dike
namespace Go.Ab.Dike
open Go Go.Ab
def zGate : List Value := [.bool false, .slice none 0 0, .slice none 0 0, .int .i64 0, .bool false, .map none, .int .i64 0]
def NoG (A : Hp) (v : Value) : Prop := v = .pointer none ∨ ∃ X, v = .pointer (some ⟨X, 0, none⟩) ∧ A.get X = some (.cells zGate false)
theorem NoG.ext {A A' : Hp} {v : Value} (h : NoG A v) (he : Ext' A A') : NoG A' v := by
  rcases h with h | ⟨X, h1, h2⟩
  · exact .inl h
  · exact .inr ⟨X, h1, he.get h2⟩
section
variable {g : Nat} {rd : Option Nat} {T : List Value} {D : List Nat} {A : Hp} {Q : Ex → St → Prop} {V : Value → Hp → Prop} {v : Value}
theorem zer2 : zeros 2 [Value.nilFunc, .int .i64 0] = [.nilFunc, .int .i64 0, .nilFunc, .int .i64 0] := rfl
theorem zer3 : zeros 3 [Value.nilFunc, .int .i64 0] = [.nilFunc, .int .i64 0, .nilFunc, .int .i64 0, .nilFunc, .int .i64 0] := rfl
theorem zer5 : zeros 5 [Value.nilFunc, .int .i64 0] = [.nilFunc, .int .i64 0, .nilFunc, .int .i64 0, .nilFunc, .int .i64 0, .nilFunc, .int .i64 0, .nilFunc, .int .i64 0] := rfl
theorem NoG.ptr {A : Hp} {v : Value} (h : NoG A v) : ∃ p, v = .pointer p := by
  rcases h with rfl | ⟨X, rfl, _⟩
  · exact ⟨_, rfl⟩
  · exact ⟨_, rfl⟩
end
end Go.Ab.Dike
namespace Go.Ab.Dike
open Go Go.Ab
structure Ck where
  fn : Fn
  caps : Array Value
  e : Int
  b : Bool
def Ck.f (c : Ck) : Value := .func c.fn #[] c.caps
def ckC (l : List Ck) : List Value := l.flatMap fun c => [c.f, .int .i64 c.e]
def ckE : List Ck → Int
  | [] => 0
  | c :: l => if c.b then ckE l else c.e
theorem ckC_length : ∀ l : List Ck, (ckC l).length = l.length * 2
  | [] => rfl
  | c :: l => by
    have := ckC_length l
    unfold ckC at this
    simp [ckC, this]; omega
theorem ckC_at : ∀ {l : List Ck} {i : Nat} (h : i < l.length), partA (ckC l) (i * 2) (some 2) = some (.agg ⟨[l[i].f, .int .i64 l[i].e]⟩)
  | c :: l, 0, _ => by
    refine (partA_some (by have := ckC_length (c :: l); simp at this ⊢; omega)).trans ?_
    simp [ckC]
  | c :: l, i + 1, h => by
    have ih := ckC_at (l := l) (i := i) (by simpa using h)
    have hl := ckC_length l
    have hl2 := ckC_length (c :: l)
    simp only [List.length_cons] at h hl2
    rw [partA_some (by omega)] at ih
    rw [partA_some (by omega)]
    rw [show (ckC (c :: l)).drop ((i + 1) * 2) = (ckC l).drop (i * 2) by rw [show (i + 1) * 2 = i * 2 + 1 + 1 by omega]; rfl]
    simpa using ih
theorem ckE_bad : ∀ {l : List Ck} {i : Nat} (h : i < l.length), (∀ j (hj : j < l.length), j < i → l[j].b = true) → l[i].b = false → ckE l = l[i].e
  | c :: l, 0, _, _, h2 => by
    have : c.b = false := h2
    simp [ckE, this]
  | c :: l, i + 1, h, h1, h2 => by
    have h0 : c.b = true := h1 0 (by simp) (by omega)
    have := ckE_bad (l := l) (i := i) (by simpa using h) (fun j hj hji => h1 (j + 1) (by simpa using hj) (by omega)) h2
    rw [ckE, h0, if_pos rfl, this]; rfl
theorem ckE_ok : ∀ {l : List Ck}, (∀ j (hj : j < l.length), l[j].b = true) → ckE l = 0
  | [], _ => rfl
  | c :: l, h => by
    have h0 : c.b = true := h 0 (by simp)
    rw [ckE, h0, if_pos rfl]
    exact ckE_ok fun j hj => h (j + 1) (by simpa using hj)
def actE (t time : Int) (l : List Ck) : Int := if t < 0 ∨ 1000000000 < t then 3 else if t < time then 17 else ckE l
def Cks (g : Nat) (A0 : Hp) (l : List Ck) : Prop :=
  ∀ i (h : i < l.length), (∀ j (hj : j < l.length), j < i → l[j].b = true) → ∀ (A : Hp) (V : Value → Hp → Prop), Ext' A0 A → (∀ A', Ext' A A' → V (.bool l[i].b) A') → WV AP KL g l[i].f [] A V
theorem Cks.ext {g : Nat} {A0 A1 : Hp} {l : List Ck} (h : Cks g A0 l) (he : Ext' A0 A1) : Cks g A1 l := fun i hi hj A V hA hV => h i hi hj A V (he.trans hA) hV
section
variable {g : Nat} {rd : Option Nat} {T : List Value} {D : List Nat} {A : Hp} {Q : Ex → St → Prop} {V : Value → Hp → Prop} {v : Value}
theorem ckE_ne : ∀ {l : List Ck}, (∀ c ∈ l, c.e ≠ 0) → (∃ c ∈ l, c.b = false) → ckE l ≠ 0
  | [], _, ⟨_, h, _⟩ => by cases h
  | d :: l, he, ⟨c, hcm, hcb⟩ => by
    unfold ckE
    by_cases hd : d.b = true
    · rw [if_pos hd]
      rcases List.mem_cons.1 hcm with rfl | h
      · rw [hcb] at hd; cases hd
      · exact ckE_ne (fun c hc => he c (List.mem_cons_of_mem _ hc)) ⟨c, h, hcb⟩
    · rw [if_neg hd]
      exact he d (List.mem_cons_self ..)
theorem WV_mono {f : Value} {args : List Value} {A : Hp} {V V' : Value → Hp → Prop} (h : WV AP KL g f args A V) (hV : ∀ v A', V v A' → V' v A') : WV AP KL g f args A V' := by
  obtain ⟨m, d, v, A', h1, h2⟩ := h
  exact ⟨m, d, v, A', h1, hV _ _ h2⟩
theorem loop184 {A0 : Hp} {Y n : Nat} {l : List Ck} (hn : l.length = n) (hc : Cks g A0 l) (hl : n ≤ 1000) (hY : A0.get Y = some (.cells (ckC l) false)) (hg : g ≤ A0.n)
    (hbad : ∀ T' A', Ext' A0 A' → tget T' 8 = .int .i64 (ckE l) → (∃ c ∈ l, c.b = false) → Q .ret ⟨T', D, A'⟩) (hok : ∀ T' A', KeepT [0, 1, 2] T T' → (∀ c ∈ l, c.b = true) → Ext' A0 A' → Q (.exit 1) ⟨T', D, A'⟩) :
    ∀ (r i : Nat) {T1 : List Value} {A : Hp}, i + r = n → KeepT [0, 1, 2] T T1 → (∀ j (hj : j < l.length), j < i → l[j].b = true) → tget T1 29 = .slice (some ⟨Y, 0, some 2⟩) n n → tget T1 30 = .int .i64 n → tget T1 31 = .int .i64 i → Ext' A0 A → W AP KL g rd (.loop body184) ⟨T1, D, A⟩ Q := by
  intro r
  induction r with
  | zero =>
    intro i T1 A hir hk hj t29 t30 t31 he
    have : i = n := by omega
    subst this
    rw [W_loop]
    simp (disch := as_aux_lemma => first | omega | simp only [hDs] <;> omega | simp [isCell]) [hRs, takeMarks, resA, resAll, resOne, Value.cells, body184, t30, t31]
    refine hok _ _ (hk.trans (by simp)) (fun c hc => ?_) he
    obtain ⟨j, hj', rfl⟩ := List.getElem_of_mem hc
    exact hj j hj' (by omega)
  | succ r ih =>
    intro i T1 A hir hk hj t29 t30 t31 he
    have hYA := he.get hY
    have hA0 := he.1
    have hi : i < l.length := by omega
    have hp := ckC_at hi
    have hci := hc i hi hj
    obtain ⟨fn, hfn⟩ : ∃ fn, fn = l[i].fn := ⟨_, rfl⟩
    obtain ⟨cp, hcp⟩ : ∃ cp, cp = l[i].caps := ⟨_, rfl⟩
    obtain ⟨er, her⟩ : ∃ er, er = l[i].e := ⟨_, rfl⟩
    have hf : l[i].f = .func fn #[] cp := by rw [Ck.f, hfn, hcp]
    rw [hf] at hp hci
    rw [← her] at hp
    have e3 := wrId (n := (i : Int) + 1) (by omega) (by omega)
    have eP := he.trans (Ext'.push A (.cells [.func fn #[] cp, .int .i64 er] false))
    have eP1 := eP.1
    simp only [Hp.n_push] at eP1
    have hge : (A.push (.cells [.func fn #[] cp, .int .i64 er] false)).get A.n = some (.cells [.func fn #[] cp, .int .i64 er] false) := get_push_new
    rw [W_loop]
    simp (disch := as_aux_lemma => first | omega | simp only [hDs] <;> omega | simp [isCell]) [hRs, takeMarks, resA, resAll, resOne, Value.cells, body184, t29, t30, t31, show ((i : Int) < n) by omega, idxSA_ok, hYA, hp, storeB_cells, setRange, set_push_eq]
    refine hci _ _ eP fun A1 e1 => ?_
    have hge1 := e1.get hge
    cases hb : l[i].b with
    | false =>
      simp (disch := as_aux_lemma => first | omega | simp only [hDs] <;> omega | simp [isCell]) [hRs, takeMarks, resA, resAll, resOne, Value.cells, hge1]
      refine hbad _ _ (eP.trans e1) ?_ ⟨l[i], List.getElem_mem hi, hb⟩
      rw [ckE_bad hi hj hb, ← her]; simp
    | true =>
      simp (disch := as_aux_lemma => first | omega | simp only [hDs] <;> omega | simp [isCell]) [hRs, takeMarks, resA, resAll, resOne, Value.cells, t31]
      refine ih (i + 1) (by omega) (hk.trans (by simp)) (fun j hj' hji => ?_) (by simp [t29]) (by simp [t30]) (by simp [e3]) (eP.trans e1)
      rcases Nat.lt_or_ge j i with h | h
      · exact hj j hj' h
      · have : j = i := by omega
        subst this; exact hb
theorem w184_ok {G Y : Nat} {l : List Ck} {t time : Int} {lv dv lg mv f : Value} {ship : Bool} (hG : A.get G = some (.cells [.bool true, lv, dv, lg, .bool ship, mv, .int .i64 time] false)) (hY : A.get Y = some (.cells (ckC l) false)) (hc : Cks g A l) (hl : l.length ≤ 1000) (he : ∀ c ∈ l, c.e ≠ 0) (hg : g ≤ G)
    (hbad : actE t time l ≠ 0 → ∀ A', Ext' A A' → V (.int .i64 (actE t time l)) A')
    (hok : actE t time l = 0 → ∀ A1, Ext' A A1 → WV AP KL g f [] (A1.set G (some (.cells [.bool true, lv, dv, lg, .bool ship, mv, .int .i64 t] false))) fun _ A2 => V (.int .i64 0) A2) :
    WF AP KL g 184 [.pointer (some ⟨G, 0, none⟩), .int .i64 t, f, .slice (some ⟨Y, 0, some 2⟩) l.length l.length] A V := by
  rw [WF_body (show KL 184 = none from rfl) (show AP 184 = some F184 from rfl)]
  have w189 : ∀ {V' : Value → Hp → Prop}, V' (.bool true) A → WF AP KL g 189 [.pointer (some ⟨G, 0, none⟩)] A V' := by
    intro V' h'
    rw [WF_body (show KL 189 = none from rfl) (show AP 189 = some F189 from rfl)]
    simp (disch := as_aux_lemma => first | omega | simp only [hDs] <;> omega | simp [isCell]) [hRs, takeMarks, resA, resAll, resOne, Value.cells, F189, eqNilA, isNil, hG]
    exact h'
  have hGn := Hp.lt_of_get hG
  simp (disch := as_aux_lemma => first | omega | simp only [hDs] <;> omega | simp [isCell]) [hRs, takeMarks, resA, resAll, resOne, Value.cells, F184]
  refine w189 ?_
  by_cases c1 : t < 0
  · have hE : actE t time l = 3 := if_pos (.inl c1)
    rw [hE] at hbad
    simp (disch := as_aux_lemma => first | omega | simp only [hDs] <;> omega | simp [isCell]) [hRs, takeMarks, resA, resAll, resOne, Value.cells, c1]
    exact hbad (by decide) _ (Ext'.refl _)
  by_cases c2 : 1000000000 < t
  · have hE : actE t time l = 3 := if_pos (.inr c2)
    rw [hE] at hbad
    simp (disch := as_aux_lemma => first | omega | simp only [hDs] <;> omega | simp [isCell]) [hRs, takeMarks, resA, resAll, resOne, Value.cells, c1, c2]
    exact hbad (by decide) _ (Ext'.refl _)
  by_cases c3 : t < time
  · have hE : actE t time l = 17 := by rw [actE, if_neg (by omega), if_pos c3]
    rw [hE] at hbad
    simp (disch := as_aux_lemma => first | omega | simp only [hDs] <;> omega | simp [isCell]) [hRs, takeMarks, resA, resAll, resOne, Value.cells, c1, c2, c3, hG]
    exact hbad (by decide) _ (Ext'.refl _)
  have hE : actE t time l = ckE l := by rw [actE, if_neg (by omega), if_neg c3]
  rw [hE] at hbad hok
  simp (disch := as_aux_lemma => first | omega | simp only [hDs] <;> omega | simp [isCell]) [hRs, takeMarks, resA, resAll, resOne, Value.cells, c1, c2, c3, hG]
  refine loop184 (A0 := A) rfl hc hl hY (by omega) ?_ ?_ (T := _) l.length 0 (by omega) (fun _ _ => rfl) (fun j hj h => absurd h (by omega)) (by simp) (by simp) (by simp) (Ext'.refl _)
  · intro T' A' e1 t8 hx
    simp (disch := as_aux_lemma => first | omega | simp only [hDs] <;> omega | simp [isCell]) [hRs, takeMarks, resA, resAll, resOne, Value.cells, t8]
    exact hbad (ckE_ne he hx) _ e1
  · intro T' A' k1 hall e1
    have v0 := k1.at 0 rfl
    have v1 := k1.at 1 rfl
    have v2 := k1.at 2 rfl
    simp at v0 v1 v2
    have hG1 := e1.get hG
    have hz : ckE l = 0 := ckE_ok fun j hj => hall _ (List.getElem_mem hj)
    simp (disch := as_aux_lemma => first | omega | simp only [hDs] <;> omega | simp [isCell]) [hRs, takeMarks, resA, resAll, resOne, Value.cells, v0, v1, v2, hG1, storeB_cells, setRange]
    refine WV_mono (hok hz A' e1) fun v A2 h => ?_
    simp (disch := as_aux_lemma => first | omega | simp only [hDs] <;> omega | simp [isCell]) [hRs, takeMarks, resA, resAll, resOne, Value.cells]
    exact h
end
end Go.Ab.Dike
