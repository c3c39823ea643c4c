/- DikeHolds. -/
import Derived.Test.YtlihoghjchbjlaaZ11
set_option linter.unusedSimpArgs false
set_option linter.unusedVariables false
set_option linter.unusedSectionVars false
namespace Go.Ab.Dike
open Go Go.Ab
def KeepT (l : List Nat) (T T' : List Value) : Prop := ∀ i ∈ l, tget T' i = tget T i
@[simp] theorem KeepT_nil {T T' : List Value} : KeepT [] T T' := fun _ h => by cases h
@[simp] theorem KeepT_cons {a : Nat} {l : List Nat} {T T' : List Value} : KeepT (a :: l) T T' ↔ tget T' a = tget T a ∧ KeepT l T T' := by simp [KeepT]
theorem KeepT.at {l : List Nat} {T T' : List Value} (h : KeepT l T T') (i : Nat) (hi : l.contains i = true) : tget T' i = tget T i := h i (by simpa using hi)
theorem KeepT.trans {l : List Nat} {T T' T'' : List Value} (h : KeepT l T T') (h' : KeepT l T' T'') : KeepT l T T'' := fun i hi => (h' i hi).trans (h i hi)
abbrev pk122 : List Nat := [2, 4, 6, 7, 8, 9, 10, 42, 43, 44]
def pa122 : ACode := (.ops [
oM 46 44,
oI 47 42 44 2,
oD 48 47 2,
oP 10 (.alloc [.int .i64 0, .int .i64 0]),
oM 9 46,
oT 10 48 2])
def pb122 : ACode := (.ops [
oM 49 8,
oP 50 (.call (.t 49) [] false)])
def pc122 : ACode := (.seq
 (.ops [
oF 51 6 2,
oL 52 51,
oC 53 .lss 52 0,
oM 54 53,
oQ 55 54 true (.fieldAddr (.t 7) 0),
oQ 56 54 true (.load (.t 55) (some 2)),
oQ 57 54 true (.fieldAddr (.t 10) 1),
oQ 58 54 true (.load (.t 57) none),
oQ 59 54 true (.call (.k (.func (.func 156) ⟨[]⟩ ⟨[]⟩)) [.t 56, .t 58] false),
oP 60 (.pick (.t 54) (.t 59) (.k (.bool false)))])
 (.cond (.t 60)
 (.ops [
oM 61 9,
oF 62 6 2,
oT 62 61 1])
 .skip))
def pd122 : ACode := (.seq
 (.ops [
oF 63 6 3,
oL 64 63,
oC 65 .lss 64 0,
oM 66 65,
oQ 67 66 true (.fieldAddr (.t 7) 2),
oQ 68 66 true (.load (.t 67) (some 2)),
oQ 69 66 true (.fieldAddr (.t 10) 0),
oQ 70 66 true (.load (.t 69) none),
oQ 71 66 true (.call (.k (.func (.func 156) ⟨[]⟩ ⟨[]⟩)) [.t 68, .t 70] false),
oP 72 (.pick (.t 66) (.t 71) (.k (.bool false)))])
 (.cond (.t 72)
 (.ops [
oM 73 9,
oF 74 6 3,
oT 74 73 1])
 .skip))
def pe122 : ACode := (.seq
 (.ops [
oF 75 10 1,
oL 76 75,
oF 77 2 5,
oL 78 77,
oB 79 .gtr 76 78])
 (.cond (.t 79)
 (.ops [
oF 80 7 0,
oD 81 80 2,
oF 82 2 6,
oF 83 82 1,
oL 84 83,
oA 85 157 [.t 81, .t 84] false,
oF 86 7 0,
oT 86 85 2])
 .skip))
def pf122 : ACode := (.seq
 (.ops [
oF 87 10 0,
oL 88 87,
oF 89 2 5,
oL 90 89,
oB 91 .gtr 88 90])
 (.cond (.t 91)
 (.ops [
oF 92 7 2,
oD 93 92 2,
oF 94 2 6,
oF 95 94 0,
oL 96 95,
oA 97 157 [.t 93, .t 96] false,
oF 98 7 2,
oT 98 97 2])
 .skip))
section
variable {g : Nat} {rd : Option Nat} {T : List Value} {D : List Nat} {A : Hp} {Q : Ex → St → Prop} {V : Value → Hp → Prop}
def But (x : Nat) (A A' : Hp) : Prop := A.n ≤ A'.n ∧ ∀ z, z < A.n → z ≠ x → A'.get z = A.get z
theorem But.of_ext {x : Nat} {A A' : Hp} (h : Ext' A A') : But x A A' := ⟨h.1, fun z hz _ => h.2 z hz⟩
theorem But.set {x : Nat} {A A' : Hp} {b : Option ABlk} (hx : x < A.n) (h : Ext' A A') : But x A (A'.set x b) := ⟨by have := h.1; simpa using this, fun z hz hzx => by rw [get_set_ne (by have := h.1; omega) hzx, h.2 z hz]⟩
theorem c122_ok {X6 X7 X10 : Nat} {a b : Value} {may must wc ws sc ss lo hi : Int} {k : Nat} (h6 : tget T 6 = .pointer (some ⟨X6, 0, none⟩)) (h7 : tget T 7 = .pointer (some ⟨X7, 0, none⟩)) (h9 : tget T 9 = .int .i64 k) (h10 : tget T 10 = .pointer (some ⟨X10, 0, none⟩))
    (g6 : A.get X6 = some (.cells [a, b, .int .i64 may, .int .i64 must] false)) (g7 : A.get X7 = some (.cells [.int .i64 wc, .int .i64 ws, .int .i64 sc, .int .i64 ss] false)) (g10 : A.get X10 = some (.cells [.int .i64 lo, .int .i64 hi] false)) (hg : g ≤ X6)
    (hQ : ∀ T' A', KeepT pk122 T T' → But X6 A A' → A'.get X6 = some (.cells [a, b, .int .i64 (if may < 0 ∧ min wc ws < hi then k else may), .int .i64 must] false) → Q .normal ⟨T', D, A'⟩) : W AP KL g rd pc122 ⟨T, D, A⟩ Q := by
  by_cases hm : may < 0
  · simp (disch := as_aux_lemma => first | omega | simp only [hDs] <;> omega | simp [isCell]) [hRs, takeMarks, resA, resAll, resOne, Value.cells, pc122, h6, h7, h10, g6, g7, g10, hm]
    refine w156 fun A1 e1 => ?_
    have g61 := e1.get g6
    by_cases hw : min wc ws < hi
    · simp (disch := as_aux_lemma => first | omega | simp only [hDs] <;> omega | simp [isCell]) [hRs, takeMarks, resA, resAll, resOne, Value.cells, h6, h9, g61, storeB_cells, hw, setRange]
      exact hQ _ _ (by simp) (But.set (Hp.lt_of_get g6) e1) (by rw [get_set_same g61]; simp [hm, hw])
    · simp (disch := as_aux_lemma => first | omega | simp only [hDs] <;> omega | simp [isCell]) [hRs, takeMarks, resA, resAll, resOne, Value.cells, hw]
      exact hQ _ _ (by simp) (But.of_ext e1) (by rw [g61]; simp [hw])
  · simp (disch := as_aux_lemma => first | omega | simp only [hDs] <;> omega | simp [isCell]) [hRs, takeMarks, resA, resAll, resOne, Value.cells, pc122, h6, g6, hm]
    exact hQ _ _ (by simp) (But.of_ext (Ext'.refl _)) (by rw [g6]; simp [hm])
theorem d122_ok {X6 X7 X10 : Nat} {a b : Value} {may must wc ws sc ss lo hi : Int} {k : Nat} (h6 : tget T 6 = .pointer (some ⟨X6, 0, none⟩)) (h7 : tget T 7 = .pointer (some ⟨X7, 0, none⟩)) (h9 : tget T 9 = .int .i64 k) (h10 : tget T 10 = .pointer (some ⟨X10, 0, none⟩))
    (g6 : A.get X6 = some (.cells [a, b, .int .i64 may, .int .i64 must] false)) (g7 : A.get X7 = some (.cells [.int .i64 wc, .int .i64 ws, .int .i64 sc, .int .i64 ss] false)) (g10 : A.get X10 = some (.cells [.int .i64 lo, .int .i64 hi] false)) (hg : g ≤ X6)
    (hQ : ∀ T' A', KeepT pk122 T T' → But X6 A A' → A'.get X6 = some (.cells [a, b, .int .i64 may, .int .i64 (if must < 0 ∧ min sc ss < lo then k else must)] false) → Q .normal ⟨T', D, A'⟩) : W AP KL g rd pd122 ⟨T, D, A⟩ Q := by
  by_cases hm : must < 0
  · simp (disch := as_aux_lemma => first | omega | simp only [hDs] <;> omega | simp [isCell]) [hRs, takeMarks, resA, resAll, resOne, Value.cells, pd122, h6, h7, h10, g6, g7, g10, hm]
    refine w156 fun A1 e1 => ?_
    have g61 := e1.get g6
    by_cases hw : min sc ss < lo
    · simp (disch := as_aux_lemma => first | omega | simp only [hDs] <;> omega | simp [isCell]) [hRs, takeMarks, resA, resAll, resOne, Value.cells, h6, h9, g61, storeB_cells, hw, setRange]
      exact hQ _ _ (by simp) (But.set (Hp.lt_of_get g6) e1) (by rw [get_set_same g61]; simp [hm, hw])
    · simp (disch := as_aux_lemma => first | omega | simp only [hDs] <;> omega | simp [isCell]) [hRs, takeMarks, resA, resAll, resOne, Value.cells, hw]
      exact hQ _ _ (by simp) (But.of_ext e1) (by rw [g61]; simp [hw])
  · simp (disch := as_aux_lemma => first | omega | simp only [hDs] <;> omega | simp [isCell]) [hRs, takeMarks, resA, resAll, resOne, Value.cells, pd122, h6, g6, hm]
    exact hQ _ _ (by simp) (But.of_ext (Ext'.refl _)) (by rw [g6]; simp [hm])
theorem e122_ok {S : Sec} {X2 X7 X10 : Nat} {wc ws sc ss lo hi : Int} {ro : Bool} (h2 : tget T 2 = .pointer (some ⟨X2, 0, none⟩)) (h7 : tget T 7 = .pointer (some ⟨X7, 0, none⟩)) (h10 : tget T 10 = .pointer (some ⟨X10, 0, none⟩))
    (g2 : A.get X2 = some (.cells S.cells ro)) (g7 : A.get X7 = some (.cells [.int .i64 wc, .int .i64 ws, .int .i64 sc, .int .i64 ss] false)) (g10 : A.get X10 = some (.cells [.int .i64 lo, .int .i64 hi] false)) (hg : g ≤ X7)
    (hQ : ∀ T' A', KeepT pk122 T T' → But X7 A A' → A'.get X7 = some (.cells [.int .i64 (if S.toe < hi then wr .i64 (wc - S.wh) else wc), .int .i64 (if S.toe < hi then wr .i64 (ws - S.wh) else ws), .int .i64 sc, .int .i64 ss] false) → Q .normal ⟨T', D, A'⟩) : W AP KL g rd pe122 ⟨T, D, A⟩ Q := by
  have h7n := Hp.lt_of_get g7
  by_cases hm : S.toe < hi
  · simp (disch := as_aux_lemma => first | omega | simp only [hDs] <;> omega | simp [isCell]) [hRs, takeMarks, resA, resAll, resOne, Value.cells, pe122, h2, h7, h10, g2, g7, g10, hm, Sec.cells]
    refine w157 (by omega) fun A1 e1 => ?_
    have g71 := e1.get g7
    simp (disch := as_aux_lemma => first | omega | simp only [hDs] <;> omega | simp [isCell]) [hRs, takeMarks, resA, resAll, resOne, Value.cells, h7, g71, storeB_cells, setRange]
    exact hQ _ _ (by simp) (But.set h7n e1) (by rw [get_set_same g71]; simp [hm])
  · simp (disch := as_aux_lemma => first | omega | simp only [hDs] <;> omega | simp [isCell]) [hRs, takeMarks, resA, resAll, resOne, Value.cells, pe122, h2, h7, h10, g2, g7, g10, hm, Sec.cells]
    exact hQ _ _ (by simp) (But.of_ext (Ext'.refl _)) (by rw [g7]; simp [hm])
theorem f122_ok {S : Sec} {X2 X7 X10 : Nat} {wc ws sc ss lo hi : Int} {ro : Bool} (h2 : tget T 2 = .pointer (some ⟨X2, 0, none⟩)) (h7 : tget T 7 = .pointer (some ⟨X7, 0, none⟩)) (h10 : tget T 10 = .pointer (some ⟨X10, 0, none⟩))
    (g2 : A.get X2 = some (.cells S.cells ro)) (g7 : A.get X7 = some (.cells [.int .i64 wc, .int .i64 ws, .int .i64 sc, .int .i64 ss] false)) (g10 : A.get X10 = some (.cells [.int .i64 lo, .int .i64 hi] false)) (hg : g ≤ X7)
    (hQ : ∀ T' A', KeepT pk122 T T' → But X7 A A' → A'.get X7 = some (.cells [.int .i64 wc, .int .i64 ws, .int .i64 (if S.toe < lo then wr .i64 (sc - S.wl) else sc), .int .i64 (if S.toe < lo then wr .i64 (ss - S.wl) else ss)] false) → Q .normal ⟨T', D, A'⟩) : W AP KL g rd pf122 ⟨T, D, A⟩ Q := by
  have h7n := Hp.lt_of_get g7
  by_cases hm : S.toe < lo
  · simp (disch := as_aux_lemma => first | omega | simp only [hDs] <;> omega | simp [isCell]) [hRs, takeMarks, resA, resAll, resOne, Value.cells, pf122, h2, h7, h10, g2, g7, g10, hm, Sec.cells]
    refine w157 (by omega) fun A1 e1 => ?_
    have g71 := e1.get g7
    simp (disch := as_aux_lemma => first | omega | simp only [hDs] <;> omega | simp [isCell]) [hRs, takeMarks, resA, resAll, resOne, Value.cells, h7, g71, storeB_cells, setRange]
    exact hQ _ _ (by simp) (But.set h7n e1) (by rw [get_set_same g71]; simp [hm])
  · simp (disch := as_aux_lemma => first | omega | simp only [hDs] <;> omega | simp [isCell]) [hRs, takeMarks, resA, resAll, resOne, Value.cells, pf122, h2, h7, h10, g2, g7, g10, hm, Sec.cells]
    exact hQ _ _ (by simp) (But.of_ext (Ext'.refl _)) (by rw [g7]; simp [hm])
end
end Go.Ab.Dike
namespace Go.Ab.Dike
open Go Go.Ab
section
variable {g : Nat} {rd : Option Nat} {T : List Value} {D : List Nat} {A : Hp} {Q : Ex → St → Prop} {V : Value → Hp → Prop}
theorem holdS_step (S : Sec) (zs : List Int) (k : Nat) : holdS S zs (k + 1) =
    ⟨if S.toe < gi zs (k * 2 + 1) then wr .i64 ((holdS S zs k).wc - S.wh) else (holdS S zs k).wc, if S.toe < gi zs (k * 2 + 1) then wr .i64 ((holdS S zs k).ws - S.wh) else (holdS S zs k).ws,
     if S.toe < gi zs (k * 2) then wr .i64 ((holdS S zs k).sc - S.wl) else (holdS S zs k).sc, if S.toe < gi zs (k * 2) then wr .i64 ((holdS S zs k).ss - S.wl) else (holdS S zs k).ss,
     if (holdS S zs k).may < 0 ∧ min (holdS S zs k).wc (holdS S zs k).ws < gi zs (k * 2 + 1) then k else (holdS S zs k).may,
     if (holdS S zs k).must < 0 ∧ min (holdS S zs k).sc (holdS S zs k).ss < gi zs (k * 2) then k else (holdS S zs k).must⟩ := rfl
theorem body122_eq : body122 = .seq (.ops [oB 45 .lss 44 43]) (.seq (.cond (.t 45) .skip (.exit 1)) (.seq (.block 2 (.seq pa122 (.seq pb122 (.seq pc122 (.seq pd122 (.seq pe122 pf122)))))) (.ops [oC 99 .add 44 1, oM 44 99]))) := rfl
def row6 (a b : Value) (s : HS) : ABlk := .cells [a, b, .int .i64 s.may, .int .i64 s.must] false
def row7 (s : HS) : ABlk := .cells [.int .i64 s.wc, .int .i64 s.ws, .int .i64 s.sc, .int .i64 s.ss] false
theorem loop122 {S : Sec} {A1 : Hp} {X2 X6 X7 N n : Nat} {zs : List Int} {sl : Value} {ro2 : Bool} (hsl : ∀ A : Hp, (∀ z, z < N → z ≠ X6 → z ≠ X7 → A.get z = A1.get z) → RdS A 2 n (ints zs) sl ∧ A.get X2 = some (.cells S.cells ro2)) (hn : n ≤ 1000) (h67 : X6 ≠ X7) (h6N : X6 < N) (h7N : X7 < N) (h26 : X2 ≠ X6) (h27 : X2 ≠ X7) (h2N : X2 < N)
    (hg6 : g ≤ X6) (hg7 : g ≤ X7) (hgN : g ≤ N)
    (hend : ∀ T' A' a b, KeepT [2, 4, 6, 7, 8] T T' → A'.get X6 = some (row6 a b (holdS S zs n)) → A'.get X7 = some (row7 (holdS S zs n)) → AccS N A' 2 (ints (crL S zs n)) a → AccS N A' 2 (ints (stL S zs n)) b → (∀ z, blkOf a = some z → blkOf b ≠ some z) →
      N ≤ A'.n → (∀ z, z < N → z ≠ X6 → z ≠ X7 → A'.get z = A1.get z) → Q (.exit 1) ⟨T', D, A'⟩)
    (t2 : tget T 2 = .pointer (some ⟨X2, 0, none⟩)) (t6 : tget T 6 = .pointer (some ⟨X6, 0, none⟩)) (t7 : tget T 7 = .pointer (some ⟨X7, 0, none⟩)) (t8 : tget T 8 = .func (.func 155) ⟨[]⟩ ⟨[.pointer (some ⟨X6, 0, none⟩), .pointer (some ⟨X7, 0, none⟩)]⟩) :
    ∀ (k i : Nat) {T1 : List Value} {A : Hp} {a b : Value}, i + k = n → KeepT [2, 4, 6, 7, 8] T T1 → tget T1 42 = sl → tget T1 43 = .int .i64 n → tget T1 44 = .int .i64 i → A.get X6 = some (row6 a b (holdS S zs i)) → A.get X7 = some (row7 (holdS S zs i)) →
      AccS N A 2 (ints (crL S zs i)) a → AccS N A 2 (ints (stL S zs i)) b → (∀ z, blkOf a = some z → blkOf b ≠ some z) → N ≤ A.n → (∀ z, z < N → z ≠ X6 → z ≠ X7 → A.get z = A1.get z) → W AP KL g rd (.loop body122) ⟨T1, D, A⟩ Q := by
  intro k
  induction k with
  | zero =>
    intro i T1 A a b hik hk t42 t43 t44 g6 g7 ha hb hab hN hold
    have : i = n := by omega
    subst this
    rw [W_loop]
    simp (disch := as_aux_lemma => first | omega | simp only [hDs] <;> omega | simp [isCell]) [hRs, takeMarks, resA, resAll, resOne, Value.cells, body122, t43, t44]
    exact hend _ A a b (hk.trans (by simp)) g6 g7 ha hb hab hN hold
  | succ k ih =>
    intro i T1 A a b hik hk t42 t43 t44 g6 g7 ha hb hab hN hold
    have u2 : tget T1 2 = _ := (hk.at 2 rfl).trans t2
    have u6 : tget T1 6 = _ := (hk.at 6 rfl).trans t6
    have u7 : tget T1 7 = _ := (hk.at 7 rfl).trans t7
    have u8 : tget T1 8 = _ := (hk.at 8 rfl).trans t8
    obtain ⟨hr, hg2⟩ := hsl A hold
    obtain ⟨x, c, ro, rfl, hx⟩ := hr.at (i := i) (by omega)
    have hzl := hr.1
    rw [ints_length] at hzl
    have h6n := Hp.lt_of_get g6
    have h7n := Hp.lt_of_get g7
    have h2n := Hp.lt_of_get hg2
    obtain ⟨s, hs⟩ : ∃ s, s = holdS S zs i := ⟨_, rfl⟩
    rw [← hs] at g6 g7
    rw [W_loop]
    simp (disch := as_aux_lemma => first | omega | simp only [hDs] <;> omega | simp [isCell]) [hRs, takeMarks, resA, resAll, resOne, Value.cells, body122_eq, t43, t44, show ((i : Int) < n) by omega]
    simp (disch := as_aux_lemma => first | omega | simp only [hDs] <;> omega | simp [isCell]) [hRs, takeMarks, resA, resAll, resOne, Value.cells, pa122, t42, t44, idxSA_ok, hx, ints_two, storeB_cells, setRange, set_push_eq]
    obtain ⟨lo, hlo⟩ : ∃ lo, lo = gi zs (i * 2) := ⟨_, rfl⟩
    obtain ⟨hi, hhi⟩ : ∃ hi, hi = gi zs (i * 2 + 1) := ⟨_, rfl⟩
    rw [← hlo, ← hhi]
    obtain ⟨B, hB⟩ : ∃ B, B = A.push (.cells [.int .i64 lo, .int .i64 hi] false) := ⟨_, rfl⟩
    rw [← hB]
    have hBn : B.n = A.n + 1 := by rw [hB]; rfl
    have hBo : ∀ z, z < A.n → B.get z = A.get z := fun z hz => by rw [hB, get_push_old hz]
    have hB10 : B.get A.n = some (.cells [.int .i64 lo, .int .i64 hi] false) := by rw [hB, get_push_new]
    simp (disch := as_aux_lemma => first | omega | simp only [hDs] <;> omega | simp [isCell]) [hRs, takeMarks, resA, resAll, resOne, Value.cells, pb122, u8]
    refine w155 (N := N) (k := i) (a := a) (b := b) (ca := crL S zs i) (cb := stL S zs i) ((hBo X6 h6n).trans g6) ((hBo X7 h7n).trans g7) (ha.mono hBo) (hb.mono hBo) hab (crL_length S zs i) (stL_length S zs i) (by omega) hg6 hgN h6N h7N h67 (by omega) ?_
    intro C a' b' c6 hac hbc hab' hCn hCo
    simp (disch := as_aux_lemma => first | omega | simp only [hDs] <;> omega | simp [isCell]) [hRs, takeMarks, resA, resAll, resOne, Value.cells]
    have nota : ∀ z, z < N → blkOf a ≠ some z := fun z hz h => by have := (ha.blk_ge h).1; omega
    have notb : ∀ z, z < N → blkOf b ≠ some z := fun z hz h => by have := (hb.blk_ge h).1; omega
    have hC7 : C.get X7 = some (row7 s) := by rw [hCo X7 (by omega) (Ne.symm h67) (nota _ h7N) (notb _ h7N), hBo X7 h7n]; exact g7
    have hC2 : C.get X2 = some (.cells S.cells ro2) := by rw [hCo X2 (by omega) h26 (nota _ h2N) (notb _ h2N), hBo X2 h2n]; exact hg2
    have hC10 : C.get A.n = some (.cells [.int .i64 lo, .int .i64 hi] false) := by
      rw [hCo A.n (by omega) (by omega) (fun h => by have := (ha.blk_ge h).2; omega) (fun h => by have := (hb.blk_ge h).2; omega)]; exact hB10
    have hCN : ∀ z, z < N → z ≠ X6 → C.get z = A.get z := fun z hz hz6 => by rw [hCo z (by omega) hz6 (nota _ hz) (notb _ hz), hBo z (by omega)]
    have hX10 : A.n < C.n := Hp.lt_of_get hC10
    refine c122_ok (X6 := X6) (X7 := X7) (X10 := A.n) (k := i) (lo := lo) (hi := hi) (by simp [u6]) (by simp [u7]) (by simp) (by simp) c6 hC7 hC10 hg6 ?_
    intro T3 A3 k3 b3 g63
    simp only [SeqQ_normal, W_seq]
    refine d122_ok (X6 := X6) (X7 := X7) (X10 := A.n) (k := i) (lo := lo) (hi := hi) (by rw [k3.at 6 rfl]; simp [u6]) (by rw [k3.at 7 rfl]; simp [u7]) (by rw [k3.at 9 rfl]; simp) (by rw [k3.at 10 rfl]; simp) g63 ((b3.2 X7 (by omega) (Ne.symm h67)).trans hC7) ((b3.2 A.n hX10 (by omega)).trans hC10) hg6 ?_
    intro T4 A4 k4 b4 g64
    simp only [SeqQ_normal, W_seq]
    have k34 := k3.trans k4
    have n3 := b3.1
    have n4 := b4.1
    have o4 : ∀ z, z < C.n → z ≠ X6 → A4.get z = C.get z := fun z hz hz6 => (b4.2 z (by omega) hz6).trans (b3.2 z hz hz6)
    refine e122_ok (S := S) (X2 := X2) (X7 := X7) (X10 := A.n) (lo := lo) (hi := hi) (by rw [k34.at 2 rfl]; simp [u2]) (by rw [k34.at 7 rfl]; simp [u7]) (by rw [k34.at 10 rfl]; simp) ((o4 X2 (by omega) h26).trans hC2) ((o4 X7 (by omega) (Ne.symm h67)).trans hC7) ((o4 A.n hX10 (by omega)).trans hC10) hg7 ?_
    intro T5 A5 k5 b5 g75
    simp only [SeqQ_normal]
    have k35 := k34.trans k5
    have n5 := b5.1
    have o5 : ∀ z, z < C.n → z ≠ X6 → z ≠ X7 → A5.get z = C.get z := fun z hz hz6 hz7 => (b5.2 z (by omega) hz7).trans (o4 z hz hz6)
    refine f122_ok (S := S) (X2 := X2) (X7 := X7) (X10 := A.n) (lo := lo) (hi := hi) (by rw [k35.at 2 rfl]; simp [u2]) (by rw [k35.at 7 rfl]; simp [u7]) (by rw [k35.at 10 rfl]; simp) ((o5 X2 (by omega) h26 h27).trans hC2) g75 ((o5 A.n hX10 (by omega) (by omega)).trans hC10) hg7 ?_
    intro T6 A6 k6 b6 g76
    have k36 := k35.trans k6
    have n6 := b6.1
    have o6 : ∀ z, z < C.n → z ≠ X6 → z ≠ X7 → A6.get z = C.get z := fun z hz hz6 hz7 => (b6.2 z (by omega) hz7).trans (o5 z hz hz6 hz7)
    have g66 : A6.get X6 = A4.get X6 := by rw [b6.2 X6 (by omega) h67, b5.2 X6 (by omega) h67]
    have e3 := wrId (n := (i : Int) + 1) (by omega) (by omega)
    have q44 : tget T6 44 = .int .i64 i := by rw [k36.at 44 rfl]; simp [t44]
    simp (disch := as_aux_lemma => first | omega | simp only [hDs] <;> omega | simp [isCell]) [hRs, takeMarks, resA, resAll, resOne, Value.cells, q44, e3]
    have acc : ∀ {cs : List Int} {sv : Value}, AccS N C 2 (ints cs) sv → AccS N A6 2 (ints cs) sv := fun h => AccS.keepB h fun z hz => by
      have := h.blk_ge hz
      exact o6 z this.2 (by omega) (by omega)
    have hst := holdS_step S zs i
    rw [← hs, ← hlo, ← hhi] at hst
    refine ih (i + 1) (a := a') (b := b') (by omega) ?_ (by simp [k36.at 42 rfl, t42]) (by simp [k36.at 43 rfl, t43]) (by simp) ?_ ?_ ?_ ?_ hab' (by omega) ?_
    · refine hk.trans ?_
      simp [k36.at 2 rfl, k36.at 4 rfl, k36.at 6 rfl, k36.at 7 rfl, k36.at 8 rfl]
    · rw [g66, g64, hst]; rfl
    · rw [g76, hst]; rfl
    · have : crL S zs (i + 1) = crL S zs i ++ [s.wc, s.sc] := by rw [hs]; rfl
      rw [this]; exact acc hac
    · have : stL S zs (i + 1) = stL S zs i ++ [s.ws, s.ss] := by rw [hs]; rfl
      rw [this]; exact acc hbc
    · intro z hz hz6 hz7
      rw [o6 z (by omega) hz6 hz7, hCN z hz hz6]
      exact hold z hz hz6 hz7
theorem lvl_val {zs : List Int} {n : Nat} (hl : zs.length = n * 2) : ∀ i, i < n → partA (ints zs) (i * 2) (some 2) = some ((fun i => .agg ⟨[.int .i64 (gi zs (i * 2)), .int .i64 (gi zs (i * 2 + 1))]⟩) i) := fun i hi => ints_two (by omega)
theorem w122 {S : Sec} {n : Nat} {zs : List Int} {sl : Value} (hsl : RdS A 2 n (ints zs) sl) (hn : n < 1000000) (hg : g ≤ A.n) (hV : ∀ v A', Ext' A A' → HoldOut S zs n A.n v A' → V v A') : WF AP KL g 122 [.agg ⟨S.cells⟩, sl] A V := by
  rw [WF_body (show KL 122 = none from rfl) (show AP 122 = some F122 from rfl)]
  have hzl := hsl.1
  rw [ints_length] at hzl
  have hSc : partA S.cells 0 (some 8) = some (.agg ⟨S.cells⟩) := rfl
  simp (disch := as_aux_lemma => first | omega | simp only [hDs] <;> omega | simp [isCell]) [hRs, takeMarks, resA, resAll, resOne, Value.cells, F122, hSc]
  obtain ⟨B, hB⟩ : ∃ B, B = (A.push (.cells S.cells false)).push (.cells [.slice none 0 0, .slice none 0 0, .int .i64 0, .int .i64 0] false) := ⟨_, rfl⟩
  rw [← hB]
  have hBn : B.n = A.n + 2 := by rw [hB]; rfl
  have eB : Ext' A B := by rw [hB]; exact (Ext'.push A _).trans (Ext'.push _ _)
  have b2 : B.get A.n = some (.cells S.cells false) := by rw [hB, get_push_old (by simp), get_push_new]
  have b4 : B.get (A.n + 1) = some (.cells [.slice none 0 0, .slice none 0 0, .int .i64 0, .int .i64 0] false) := by rw [hB, get_push_eq (by simp)]
  refine w152 fun A1 e1 => ?_
  have c4 := e1.get b4
  have bad : ∀ (A2 : Hp) (e : Int), Ext' B A2 → holdE S zs n = e → e ≠ 0 → ∀ {b : ABlk}, b = .cells [.slice none 0 0, .slice none 0 0, .int .i64 0, .int .i64 0] false → V (.tuple ⟨[fateV (.slice none 0 0) (.slice none 0 0) 0 0, .int .i64 e]⟩) (A2.set (A.n + 1) (some b)) := by
    intro A2 e he hh h0 b hb
    have := he.1
    refine hV _ _ ⟨by simp; omega, fun z hz => ?_⟩ (.inl ⟨by rw [hh]; exact h0, by rw [hh]⟩)
    rw [get_set_ne (by omega) (by omega), he.2 z (by omega), eB.2 z hz]
  cases hok : S.ok with
  | false =>
    have he : holdE S zs n = 3 := by simp [holdE, hok]
    have gs := get_set_same (b := some (.cells [.slice none 0 0, .slice none 0 0, .int .i64 0, .int .i64 0] false)) c4
    simp (disch := as_aux_lemma => first | omega | simp only [hDs] <;> omega | simp [isCell]) [hRs, takeMarks, resA, resAll, resOne, Value.cells, hok, fillA, setRange, c4, storeB_cells, gs]
    exact bad A1 3 e1 he (by decide) rfl
  | true =>
    by_cases h1000 : (1000 : Int) < n
    · have he : holdE S zs n = 9 := by simp [holdE, hok, show 1000 < n by omega]
      have gs := get_set_same (b := some (.cells [.slice none 0 0, .slice none 0 0, .int .i64 0, .int .i64 0] false)) c4
      simp (disch := as_aux_lemma => first | omega | simp only [hDs] <;> omega | simp [isCell]) [hRs, takeMarks, resA, resAll, resOne, Value.cells, hok, hsl.len, h1000, fillA, setRange, c4, storeB_cells, gs]
      exact bad A1 9 e1 he (by decide) rfl
    · simp (disch := as_aux_lemma => first | omega | simp only [hDs] <;> omega | simp [isCell]) [hRs, takeMarks, resA, resAll, resOne, Value.cells, hok, hsl.len, h1000]
      have hsl1 := (eB.trans e1).rdS hsl
      refine w56 hsl1 (lvl_val hzl) says153 hn fun A2 e2 => ?_
      have c42 := e2.get c4
      have c22 := e2.get (e1.get b2)
      cases hany : (List.range n).any (fun i => !lvl zs i) with
      | true =>
        have he : holdE S zs n = 3 := by simp only [holdE, hok, hany]; simp [show ¬ 1000 < n by omega]
        have gs := get_set_same (b := some (.cells [.slice none 0 0, .slice none 0 0, .int .i64 0, .int .i64 0] false)) c42
        simp (disch := as_aux_lemma => first | omega | simp only [hDs] <;> omega | simp [isCell]) [hRs, takeMarks, resA, resAll, resOne, Value.cells, fillA, setRange, c42, storeB_cells, gs]
        exact bad A2 3 (e1.trans e2) he (by decide) rfl
      | false =>
        have he : holdE S zs n = 0 := by simp only [holdE, hok, hany]; simp [show ¬ 1000 < n by omega]
        have n1 := e1.1
        have n2 := e2.1
        simp (disch := as_aux_lemma => first | omega | simp only [hDs] <;> omega | simp [isCell]) [hRs, takeMarks, resA, resAll, resOne, Value.cells, fillA, setRange, storeB_cells, set_push_eq, c22, Sec.cells]
        obtain ⟨A3, hA3⟩ : ∃ A3, A3 = (A2.push (.cells [.slice none 0 0, .slice none 0 0, .int .i64 (-1), .int .i64 (-1)] false)).push (.cells [.int .i64 S.cl, .int .i64 S.sl, .int .i64 S.ch, .int .i64 S.sh] false) := ⟨_, rfl⟩
        rw [← hA3]
        have hA3n : A3.n = A2.n + 2 := by rw [hA3]; rfl
        have e3 : Ext' A2 A3 := by rw [hA3]; exact (Ext'.push _ _).trans (Ext'.push _ _)
        have g6 : A3.get A2.n = some (row6 (.slice none 0 0) (.slice none 0 0) (holdS S zs 0)) := by rw [hA3, get_push_old (by simp), get_push_new]; rfl
        have g7 : A3.get (A2.n + 1) = some (row7 (holdS S zs 0)) := by rw [hA3, get_push_eq (by simp)]; rfl
        simp (disch := as_aux_lemma => first | omega | simp only [hDs] <;> omega | simp [isCell]) [hRs, takeMarks, resA, resAll, resOne, Value.cells, hsl.len]
        refine loop122 (S := S) (A1 := A3) (X2 := A.n) (X6 := A2.n) (X7 := A2.n + 1) (N := A2.n + 2) (n := n) (zs := zs) (sl := sl) (ro2 := false) ?_ (by omega) (by omega) (by omega) (by omega) (by omega) (by omega) (by omega) (by omega) (by omega) (by omega) ?_ (T := _) ?_ ?_ ?_ ?_ n 0 (a := .slice none 0 0) (b := .slice none 0 0) (by omega) (fun _ _ => rfl) (by simp) (by simp) (by simp) g6 g7 AccS.nil AccS.nil (fun z h => by cases h) (by omega) (fun z _ _ _ => rfl)
        · intro A' h
          have hA' : ∀ z, z < A2.n → A'.get z = A2.get z := fun z hz => by rw [h z (by omega) (by omega) (by omega), e3.2 z hz]
          exact ⟨((eB.trans (e1.trans e2)).rdS hsl).mono hA', (hA' _ (by omega)).trans c22⟩
        · intro T' A' a b hk q6 q7 hac hbc hab hN ho
          have u8 := hk.at 8 rfl
          have u6 := hk.at 6 rfl
          have u4 := hk.at 4 rfl
          simp at u8 u6 u4
          simp (disch := as_aux_lemma => first | omega | simp only [hDs] <;> omega | simp [isCell]) [hRs, takeMarks, resA, resAll, resOne, Value.cells, u8]
          refine w155 (N := A2.n + 2) (k := n) q6 q7 hac hbc hab (crL_length S zs n) (stL_length S zs n) (by omega) (by omega) (by omega) (by omega) (by omega) (by omega) hN ?_
          intro C a' b' c6 hac' hbc' _ hCn hCo
          have nota : ∀ z, z < A2.n + 2 → blkOf a ≠ some z := fun z hz h => by have := (hac.blk_ge h).1; omega
          have notb : ∀ z, z < A2.n + 2 → blkOf b ≠ some z := fun z hz h => by have := (hbc.blk_ge h).1; omega
          have hC : ∀ z, z < A2.n → C.get z = A2.get z := fun z hz => by rw [hCo z (by omega) (by omega) (nota _ (by omega)) (notb _ (by omega)), ho z (by omega) (by omega) (by omega), e3.2 z hz]
          have c44 : C.get (A.n + 1) = _ := (hC _ (by omega)).trans c42
          have gs : ∀ b', (C.set (A.n + 1) (some b')).get (A.n + 1) = some b' := fun b' => get_set_same c44
          obtain ⟨pa, na, ca, rfl⟩ := hac'.isSlice
          obtain ⟨pb, nb, cb, rfl⟩ := hbc'.isSlice
          simp (disch := as_aux_lemma => first | omega | simp only [hDs] <;> omega | simp [isCell]) [hRs, takeMarks, resA, resAll, resOne, Value.cells, u6, u4, c6, c44, storeB_cells, gs, setRange]
          refine hV _ _ ⟨by simp; omega, fun z hz => ?_⟩ (.inr ⟨he, _, _, rfl, ?_, ?_⟩)
          · rw [get_set_ne (by omega) (by omega), hC z (by omega), e2.2 z (by omega), e1.2 z (by omega), eB.2 z hz]
          · refine (AccS.keepB hac' fun z hz => get_set_ne (by omega) ?_).weaken (by omega)
            have := (hac'.blk_ge hz).1; omega
          · refine (AccS.keepB hbc' fun z hz => get_set_ne (by omega) ?_).weaken (by omega)
            have := (hbc'.blk_ge hz).1; omega
        · simp
        · simp
        · simp
        · simp
end
end Go.Ab.Dike
namespace Go.Ab.Dike
open Go Go.Ab
def pa124 : ACode := (.ops [
oF 44 7 0,
oL 45 44,
oD 46 8 2,
oP 47 (.slit 1 2 [.int .i64 0, .int .i64 0] [(0, .t 46)]),
oP 48 (.append (.t 45) (.t 47) 2 16),
oF 49 7 1,
⟨some 50, none, [(.t 45, 0, .t 49, 1)], .load (.t 49) none⟩,
⟨some 51, none, [(.t 45, 0, .t 9, 2)], .load (.t 9) (some 2)⟩,
oP 52 (.slit 1 2 [.int .i64 0, .int .i64 0] [(0, .t 51)]),
oP 53 (.append (.t 50) (.t 52) 2 16),
oF 54 7 0,
oT 54 48 1,
oF 55 7 1,
oT 55 53 1])
def pb124 : ACode := (.ops [
oM 56 1,
oM 57 10,
oI 58 56 57 2,
oD 59 58 2,
oP 11 (.alloc [.int .i64 0, .int .i64 0]),
oT 11 59 2])
def pc124 : ACode := (.seq
 (.ops [
oF 60 7 2,
oL 61 60,
oC 62 .lss 61 0,
oM 63 62,
oQ 64 63 true (.fieldAddr (.t 11) 1),
oQ 65 63 true (.load (.t 64) none),
oQ 66 63 true (.fieldAddr (.t 8) 0),
oQ 67 63 true (.load (.t 66) none),
oQ 68 63 true (.bin .gtr (.t 65) (.t 67)),
oN 69 63 true 68,
oQ 70 69 false (.fieldAddr (.t 11) 1),
oQ 71 69 false (.load (.t 70) none),
oQ 72 69 false (.fieldAddr (.t 9) 0),
oQ 73 69 false (.load (.t 72) none),
oQ 74 69 false (.bin .gtr (.t 71) (.t 73)),
oQ 75 63 true (.pick (.t 69) (.k (.bool true)) (.t 74)),
oP 76 (.pick (.t 63) (.t 75) (.k (.bool false)))])
 (.cond (.t 76)
 (.ops [
oM 77 10,
oF 78 7 2,
oT 78 77 1])
 .skip))
def pd124 : ACode := (.seq
 (.ops [
oF 79 7 3,
oL 80 79,
oC 81 .lss 80 0,
oM 82 81,
oQ 83 82 true (.fieldAddr (.t 11) 0),
oQ 84 82 true (.load (.t 83) none),
oQ 85 82 true (.fieldAddr (.t 8) 1),
oQ 86 82 true (.load (.t 85) none),
oQ 87 82 true (.bin .gtr (.t 84) (.t 86)),
oN 88 82 true 87,
oQ 89 88 false (.fieldAddr (.t 11) 0),
oQ 90 88 false (.load (.t 89) none),
oQ 91 88 false (.fieldAddr (.t 9) 1),
oQ 92 88 false (.load (.t 91) none),
oQ 93 88 false (.bin .gtr (.t 90) (.t 92)),
oQ 94 82 true (.pick (.t 88) (.k (.bool true)) (.t 93)),
oP 95 (.pick (.t 82) (.t 94) (.k (.bool false)))])
 (.cond (.t 95)
 (.ops [
oM 96 10,
oF 97 7 3,
oT 97 96 1])
 .skip))
def pe124 : ACode := (.seq
 (.ops [
oF 98 11 1,
oL 99 98,
oF 100 2 5,
oL 101 100,
oB 102 .gtr 99 101])
 (.cond (.t 102)
 (.seq
 (.ops [
oF 103 8 0,
oL 104 103,
oF 105 2 6,
oF 106 105 1,
oL 107 106,
oB 108 .sub 104 107,
oF 109 8 0,
oT 109 108 1])
 (.ops [
oF 110 9 0,
oL 111 110,
oF 112 2 6,
oF 113 112 1,
oL 114 113,
oB 115 .sub 111 114,
oF 116 9 0,
oT 116 115 1]))
 .skip))
def pf124 : ACode := (.seq
 (.ops [
oF 117 11 0,
oL 118 117,
oF 119 2 5,
oL 120 119,
oB 121 .gtr 118 120])
 (.cond (.t 121)
 (.seq
 (.ops [
oF 122 8 1,
oL 123 122,
oF 124 2 6,
oF 125 124 0,
oL 126 125,
oB 127 .sub 123 126,
oF 128 8 1,
oT 128 127 1])
 (.ops [
oF 129 9 1,
oL 130 129,
oF 131 2 6,
oF 132 131 0,
oL 133 132,
oB 134 .sub 130 133,
oF 135 9 1,
oT 135 134 1]))
 .skip))
abbrev pk124 : List Nat := [1, 2, 4, 7, 8, 9, 10, 11]
section
variable {g : Nat} {rd : Option Nat} {T : List Value} {D : List Nat} {A : Hp} {Q : Ex → St → Prop} {V : Value → Hp → Prop}
theorem w158 {S : Sec} (hV : ∀ A', Ext' A A' → V (.bool S.ok) A') : WF AP KL g 158 [.agg ⟨S.cells⟩] A V := by
  rw [WF_body (show KL 158 = none from rfl) (show AP 158 = some F158 from rfl)]
  have hX : (A.push (.cells S.cells false)).get A.n = some (.cells S.cells false) := get_push_new
  have ext : ∀ {A1}, Ext' (A.push (.cells S.cells false)) A1 → Ext' A A1 := fun h => (Ext'.push A _).trans h
  simp (disch := as_aux_lemma => first | omega | simp only [hDs] <;> omega | simp [isCell]) [hRs, takeMarks, resA, resAll, resOne, Value.cells, F158, Sec.cells]
  refine w159 fun A1 n1 o1 => ?_
  have e1 : Ext' (A.push (.cells S.cells false)) A1 := ⟨by simp [Sec.cells] at n1 ⊢; omega, fun x hx => o1 x (by simpa [Sec.cells] using hx)⟩
  have h1 := e1.get hX
  cases c1 : validB S.cl S.ch (-20000) 20000 with
  | false =>
    simp (disch := as_aux_lemma => first | omega | simp only [hDs] <;> omega | simp [isCell]) [hRs, takeMarks, resA, resAll, resOne, Value.cells]
    have : S.ok = false := by simp [Sec.ok, c1]
    rw [← this]; exact hV A1 (ext e1)
  | true =>
    simp (disch := as_aux_lemma => first | omega | simp only [hDs] <;> omega | simp [isCell]) [hRs, takeMarks, resA, resAll, resOne, Value.cells, h1, Sec.cells]
    refine w159 fun A2 n2 o2 => ?_
    have e2 : Ext' A1 A2 := ⟨by omega, o2⟩
    have h2 := e2.get h1
    cases c2 : validB S.sl S.sh (-20000) 20000 with
    | false =>
      simp (disch := as_aux_lemma => first | omega | simp only [hDs] <;> omega | simp [isCell]) [hRs, takeMarks, resA, resAll, resOne, Value.cells]
      have : S.ok = false := by simp [Sec.ok, c2]
      rw [← this]; exact hV A2 (ext (e1.trans e2))
    | true =>
      have ct : validB S.toe S.toe (-20000) 20000 = (decide (-20000 ≤ S.toe) && decide (S.toe ≤ 20000)) := by simp [validB]
      by_cases c3 : -20000 ≤ S.toe
      · by_cases c4 : S.toe ≤ 20000
        · simp (disch := as_aux_lemma => first | omega | simp only [hDs] <;> omega | simp [isCell]) [hRs, takeMarks, resA, resAll, resOne, Value.cells, h2, Sec.cells, c3, c4]
          refine w159 fun A3 n3 o3 => ?_
          simp (disch := as_aux_lemma => first | omega | simp only [hDs] <;> omega | simp [isCell]) [hRs, takeMarks, resA, resAll, resOne, Value.cells]
          have : S.ok = validB S.wl S.wh 0 1000 := by simp [Sec.ok, c1, c2, ct, c3, c4]
          rw [← this]; exact hV A3 (ext (e1.trans (e2.trans ⟨by omega, o3⟩)))
        · simp (disch := as_aux_lemma => first | omega | simp only [hDs] <;> omega | simp [isCell]) [hRs, takeMarks, resA, resAll, resOne, Value.cells, h2, Sec.cells, c3, c4]
          have : S.ok = false := by simp [Sec.ok, c1, c2, ct, c4]
          rw [← this]; exact hV A2 (ext (e1.trans e2))
      · simp (disch := as_aux_lemma => first | omega | simp only [hDs] <;> omega | simp [isCell]) [hRs, takeMarks, resA, resAll, resOne, Value.cells, h2, Sec.cells, c3]
        have : S.ok = false := by simp [Sec.ok, c1, c2, ct, c3]
        rw [← this]; exact hV A2 (ext (e1.trans e2))
theorem loop124c {A0 : Hp} {X4 n : Nat} {zs : List Int} {sl : Value} (hsl : RdS A0 2 n (ints zs) sl) (hn : n ≤ 1000) (h4 : A0.get X4 = some (.cells [.slice none 0 0, .slice none 0 0, .int .i64 0, .int .i64 0] false)) (hg : g ≤ X4)
    (herr : ∀ T' A', (List.range n).any (fun i => !lvl zs i) = true → But X4 A0 A' → A'.get X4 = some (.cells [.slice none 0 0, .slice none 0 0, .int .i64 0, .int .i64 0] false) → tget T' 4 = tget T 4 → tget T' 5 = .int .i64 3 → Q .ret ⟨T', D, A'⟩)
    (hend : ∀ T' A', (List.range n).any (fun i => !lvl zs i) = false → Ext' A0 A' → KeepT [1, 2, 4] T T' → Q (.exit 0) ⟨T', D, A'⟩) (t1 : tget T 1 = sl) (t4 : tget T 4 = .pointer (some ⟨X4, 0, none⟩)) :
    ∀ (k i : Nat) {T1 : List Value} {A : Hp}, i + k = n → (∀ j, j < i → lvl zs j = true) → Ext' A0 A → KeepT [1, 2, 4] T T1 → tget T1 6 = .int .i64 i → W AP KL g rd (.loop body124c) ⟨T1, D, A⟩ Q := by
  have hzl := hsl.1
  rw [ints_length] at hzl
  intro k
  induction k with
  | zero =>
    intro i T1 A hik hok he hk h6
    have : i = n := by omega
    subst this
    have u1 := (hk.at 1 rfl).trans t1
    rw [W_loop]
    simp (disch := as_aux_lemma => first | omega | simp only [hDs] <;> omega | simp [isCell]) [hRs, takeMarks, resA, resAll, resOne, Value.cells, body124c, u1, h6, (he.rdS hsl).len]
    refine hend _ A ?_ he (hk.trans (by simp))
    rw [Bool.eq_false_iff]
    intro h
    obtain ⟨j, hj, hb⟩ := List.any_eq_true.1 h
    rw [hok j (by simpa using hj)] at hb
    cases hb
  | succ k ih =>
    intro i T1 A hik hok he hk h6
    have u1 := (hk.at 1 rfl).trans t1
    have u4 := (hk.at 4 rfl).trans t4
    obtain ⟨x, c, ro, rfl, hx⟩ := (he.rdS hsl).at (i := i) (by omega)
    rw [W_loop]
    simp (disch := as_aux_lemma => first | omega | simp only [hDs] <;> omega | simp [isCell]) [hRs, takeMarks, resA, resAll, resOne, Value.cells, body124c, u1, h6, show ((i : Int) < n) by omega, idxSA_ok, hx, ints_two]
    refine w159 fun A1 n1 o1 => ?_
    have e1 : Ext' A A1 := ⟨by omega, o1⟩
    have g4 := (he.trans e1).get h4
    cases hl : lvl zs i with
    | false =>
      have hl' := hl
      rw [lvl] at hl'
      simp (disch := as_aux_lemma => first | omega | simp only [hDs] <;> omega | simp [isCell]) [hRs, takeMarks, resA, resAll, resOne, Value.cells, hl', fillA, setRange, u4, g4, storeB_cells]
      refine herr _ _ (List.any_eq_true.2 ⟨i, by simp; omega, by simp [hl]⟩) (But.set (Hp.lt_of_get h4) (he.trans e1)) (get_set_same g4) (by simp [u4, t4]) (by simp)
    | true =>
      have hl' := hl
      rw [lvl] at hl'
      simp (disch := as_aux_lemma => first | omega | simp only [hDs] <;> omega | simp [isCell]) [hRs, takeMarks, resA, resAll, resOne, Value.cells, hl', h6]
      have hok' : ∀ j, j < i + 1 → lvl zs j = true := fun j hj => by
        rcases Nat.lt_or_ge j i with h | h
        · exact hok j h
        · have : j = i := by omega
          subst this; exact hl
      exact ih (i + 1) (by omega) hok' (he.trans e1) (hk.trans (by simp)) (by simp [wrId (n := (i : Int) + 1) (by omega) (by omega)])
theorem a124_ok {N X7 X8 X9 : Nat} {a b : Value} {ca cb : List Int} {may must wc ws sc ss : Int} {k : Nat} (t7 : tget T 7 = .pointer (some ⟨X7, 0, none⟩)) (t8 : tget T 8 = .pointer (some ⟨X8, 0, none⟩)) (t9 : tget T 9 = .pointer (some ⟨X9, 0, none⟩))
    (h7 : A.get X7 = some (.cells [a, b, .int .i64 may, .int .i64 must] false)) (h8 : A.get X8 = some (.cells [.int .i64 wc, .int .i64 sc] false)) (h9 : A.get X9 = some (.cells [.int .i64 ws, .int .i64 ss] false))
    (ha : AccS N A 2 (ints ca) a) (hb : AccS N A 2 (ints cb) b) (hab : ∀ z, blkOf a = some z → blkOf b ≠ some z) (hla : ca.length = k * 2) (hlb : cb.length = k * 2) (hk : k < 10000) (hg7 : g ≤ X7) (hgN : g ≤ N) (h7N : X7 < N) (h8N : X8 < N) (h9N : X9 < N) (h78 : X7 ≠ X8) (h79 : X7 ≠ X9) (hN : N ≤ A.n)
    (hQ : ∀ T' A' a' b', KeepT pk124 T T' → A'.get X7 = some (.cells [a', b', .int .i64 may, .int .i64 must] false) → AccS N A' 2 (ints (ca ++ [wc, sc])) a' → AccS N A' 2 (ints (cb ++ [ws, ss])) b' → (∀ z, blkOf a' = some z → blkOf b' ≠ some z) → A.n ≤ A'.n → (∀ z, z < N → z ≠ X7 → A'.get z = A.get z) → Q .normal ⟨T', D, A'⟩) :
    W AP KL g rd pa124 ⟨T, D, A⟩ Q := by
  obtain ⟨a', A1, ea, ha', ka, na, ba⟩ := add_keep (g := g) (bytes := 16) (n := k) (ro := false) (new := [.int .i64 wc, .int .i64 sc]) ha hgN hN rfl (by decide) rfl (by simpa using hla) (by unfold room; omega)
  have h7n := Hp.lt_of_get h7
  have nota : ∀ z, z < N → blkOf a ≠ some z := fun z hz h => by have := (ha.blk_ge h).1; omega
  have notb : ∀ z, z < N → blkOf b ≠ some z := fun z hz h => by have := (hb.blk_ge h).1; omega
  have h71 : A1.get X7 = _ := (ka X7 h7n (nota _ h7N)).trans h7
  have h91 : A1.get X9 = _ := (ka X9 (by omega) (nota _ h9N)).trans h9
  have hb1 : AccS N A1 2 (ints cb) b := AccS.keepB hb fun z hz => ka z (hb.blk_ge hz).2 fun h => hab z h hz
  obtain ⟨b', A2, eb, hb', kb, nb, bb⟩ := add_keep (g := g) (bytes := 16) (n := k) (ro := false) (new := [.int .i64 ws, .int .i64 ss]) hb1 hgN (by omega) rfl (by decide) rfl (by simpa using hlb) (by unfold room; omega)
  have h72 : A2.get X7 = _ := (kb X7 (by omega) (notb _ h7N)).trans h71
  obtain ⟨pa, n1, c1, rfl⟩ := ha'.isSlice
  obtain ⟨pb, n2, c2, rfl⟩ := hb'.isSlice
  obtain ⟨B, hB⟩ : ∃ B, B = A2.set X7 (some (.cells [.slice pa n1 c1, b, .int .i64 may, .int .i64 must] false)) := ⟨_, rfl⟩
  have hB7 : B.get X7 = some (.cells [.slice pa n1 c1, b, .int .i64 may, .int .i64 must] false) := by rw [hB]; exact get_set_same h72
  have fin : ∀ T', KeepT pk124 T T' → Q .normal ⟨T', D, B.set X7 (some (.cells [.slice pa n1 c1, .slice pb n2 c2, .int .i64 may, .int .i64 must] false))⟩ := by
    intro T' hk'
    have hC : ∀ z, z ≠ X7 → (B.set X7 (some (.cells [.slice pa n1 c1, .slice pb n2 c2, .int .i64 may, .int .i64 must] false))).get z = A2.get z := fun z hz => by
      rw [get_set_ne (Hp.lt_of_get hB7) hz, hB, get_set_ne (Hp.lt_of_get h72) hz]
    refine hQ _ _ _ _ hk' (get_set_same hB7) ?_ ?_ ?_ (by rw [hB]; simp; omega) ?_
    · rw [ints_append]
      refine AccS.keepB ha' fun z hz => ?_
      have hz1 := ha'.blk_ge hz
      rw [hC z (by omega), kb z (by omega) fun h => ?_]
      rw [ba] at hz; cases hz
      have := (hb.blk_ge h).2; omega
    · rw [ints_append]
      refine AccS.keepB hb' fun z hz => hC z ?_
      have := (hb'.blk_ge hz).1; omega
    · intro z hz hz'
      have h3 := (ha'.blk_ge hz).2
      rw [ba] at hz; rw [bb] at hz'
      have h1 := Option.some.inj hz
      have h2 := Option.some.inj hz'
      omega
    · intro z hz hz7
      rw [hC z hz7, kb z (by omega) (notb z hz), ka z (by omega) (nota z hz)]
  rcases ha with ⟨rfl, ha2⟩ | ⟨z, q, rfl, ha2, ha3, ha4, ha5⟩
  · simp (disch := as_aux_lemma => first | omega | simp only [hDs] <;> omega | simp [isCell]) [hRs, takeMarks, resA, resAll, resOne, Value.cells, pa124, t7, t8, t9, h7, h8, h71, h91, slitA, fillA, setRange, ea, eb, h72, storeB_cells, ← hB, hB7, apartA]
    exact fin _ (by simp)
  · simp (disch := as_aux_lemma => first | omega | simp only [hDs] <;> omega | simp [isCell]) [hRs, takeMarks, resA, resAll, resOne, Value.cells, pa124, t7, t8, t9, h7, h8, h71, h91, slitA, fillA, setRange, ea, eb, h72, storeB_cells, ← hB, hB7, apartA, show X7 ≠ z by omega, show X9 ≠ z by omega]
    exact fin _ (by simp)
end
end Go.Ab.Dike
namespace Go.Ab.Dike
open Go Go.Ab
def pz124 : ACode := (.ops [
oF 136 7 0,
oL 137 136,
oD 138 8 2,
oP 139 (.slit 1 2 [.int .i64 0, .int .i64 0] [(0, .t 138)]),
oP 140 (.append (.t 137) (.t 139) 2 16),
oF 141 7 1,
⟨some 142, none, [(.t 137, 0, .t 141, 1)], .load (.t 141) none⟩,
⟨some 143, none, [(.t 137, 0, .t 9, 2)], .load (.t 9) (some 2)⟩,
oP 144 (.slit 1 2 [.int .i64 0, .int .i64 0] [(0, .t 143)]),
oP 145 (.append (.t 142) (.t 144) 2 16),
oF 146 7 0,
oT 146 140 1,
oF 147 7 1,
oT 147 145 1])
@[simp] theorem _root_.Go.Ab.GuardW_undef {AP : Nat → Option AFunc} {K : Nat → Option Spec} {g : Nat} {A : Hp} {T : List Value} {R : List Value → Hp → Prop} {dst : Option Nat} {op : AOp} {l : List AOper} {b : Bool} : GuardW AP K g dst op l T A R b undef = WO AP K g l (putA dst T undef) A R := rfl
section
variable {g : Nat} {rd : Option Nat} {T : List Value} {D : List Nat} {A : Hp} {Q : Ex → St → Prop} {V : Value → Hp → Prop}
theorem z124_ok {N X7 X8 X9 : Nat} {a b : Value} {ca cb : List Int} {may must wc ws sc ss : Int} {k : Nat} (t7 : tget T 7 = .pointer (some ⟨X7, 0, none⟩)) (t8 : tget T 8 = .pointer (some ⟨X8, 0, none⟩)) (t9 : tget T 9 = .pointer (some ⟨X9, 0, none⟩))
    (h7 : A.get X7 = some (.cells [a, b, .int .i64 may, .int .i64 must] false)) (h8 : A.get X8 = some (.cells [.int .i64 wc, .int .i64 sc] false)) (h9 : A.get X9 = some (.cells [.int .i64 ws, .int .i64 ss] false))
    (ha : AccS N A 2 (ints ca) a) (hb : AccS N A 2 (ints cb) b) (hab : ∀ z, blkOf a = some z → blkOf b ≠ some z) (hla : ca.length = k * 2) (hlb : cb.length = k * 2) (hk : k < 10000) (hg7 : g ≤ X7) (hgN : g ≤ N) (h7N : X7 < N) (h8N : X8 < N) (h9N : X9 < N) (h78 : X7 ≠ X8) (h79 : X7 ≠ X9) (hN : N ≤ A.n)
    (hQ : ∀ T' A' a' b', KeepT [4, 7] T T' → A'.get X7 = some (.cells [a', b', .int .i64 may, .int .i64 must] false) → AccS N A' 2 (ints (ca ++ [wc, sc])) a' → AccS N A' 2 (ints (cb ++ [ws, ss])) b' → (∀ z, blkOf a' = some z → blkOf b' ≠ some z) → A.n ≤ A'.n → (∀ z, z < N → z ≠ X7 → A'.get z = A.get z) → Q .normal ⟨T', D, A'⟩) :
    W AP KL g rd pz124 ⟨T, D, A⟩ Q := by
  obtain ⟨a', A1, ea, ha', ka, na, ba⟩ := add_keep (g := g) (bytes := 16) (n := k) (ro := false) (new := [.int .i64 wc, .int .i64 sc]) ha hgN hN rfl (by decide) rfl (by simpa using hla) (by unfold room; omega)
  have h7n := Hp.lt_of_get h7
  have nota : ∀ z, z < N → blkOf a ≠ some z := fun z hz h => by have := (ha.blk_ge h).1; omega
  have notb : ∀ z, z < N → blkOf b ≠ some z := fun z hz h => by have := (hb.blk_ge h).1; omega
  have h71 : A1.get X7 = _ := (ka X7 h7n (nota _ h7N)).trans h7
  have h91 : A1.get X9 = _ := (ka X9 (by omega) (nota _ h9N)).trans h9
  have hb1 : AccS N A1 2 (ints cb) b := AccS.keepB hb fun z hz => ka z (hb.blk_ge hz).2 fun h => hab z h hz
  obtain ⟨b', A2, eb, hb', kb, nb, bb⟩ := add_keep (g := g) (bytes := 16) (n := k) (ro := false) (new := [.int .i64 ws, .int .i64 ss]) hb1 hgN (by omega) rfl (by decide) rfl (by simpa using hlb) (by unfold room; omega)
  have h72 : A2.get X7 = _ := (kb X7 (by omega) (notb _ h7N)).trans h71
  obtain ⟨pa, n1, c1, rfl⟩ := ha'.isSlice
  obtain ⟨pb, n2, c2, rfl⟩ := hb'.isSlice
  obtain ⟨B, hB⟩ : ∃ B, B = A2.set X7 (some (.cells [.slice pa n1 c1, b, .int .i64 may, .int .i64 must] false)) := ⟨_, rfl⟩
  have hB7 : B.get X7 = some (.cells [.slice pa n1 c1, b, .int .i64 may, .int .i64 must] false) := by rw [hB]; exact get_set_same h72
  have fin : ∀ T', KeepT [4, 7] T T' → Q .normal ⟨T', D, B.set X7 (some (.cells [.slice pa n1 c1, .slice pb n2 c2, .int .i64 may, .int .i64 must] false))⟩ := by
    intro T' hk'
    have hC : ∀ z, z ≠ X7 → (B.set X7 (some (.cells [.slice pa n1 c1, .slice pb n2 c2, .int .i64 may, .int .i64 must] false))).get z = A2.get z := fun z hz => by
      rw [get_set_ne (Hp.lt_of_get hB7) hz, hB, get_set_ne (Hp.lt_of_get h72) hz]
    refine hQ _ _ _ _ hk' (get_set_same hB7) ?_ ?_ ?_ (by rw [hB]; simp; omega) ?_
    · rw [ints_append]
      refine AccS.keepB ha' fun z hz => ?_
      have hz1 := ha'.blk_ge hz
      rw [hC z (by omega), kb z (by omega) fun h => ?_]
      rw [ba] at hz; cases hz
      have := (hb.blk_ge h).2; omega
    · rw [ints_append]
      refine AccS.keepB hb' fun z hz => hC z ?_
      have := (hb'.blk_ge hz).1; omega
    · intro z hz hz'
      have h3 := (ha'.blk_ge hz).2
      rw [ba] at hz; rw [bb] at hz'
      have h1 := Option.some.inj hz
      have h2 := Option.some.inj hz'
      omega
    · intro z hz hz7
      rw [hC z hz7, kb z (by omega) (notb z hz), ka z (by omega) (nota z hz)]
  rcases ha with ⟨rfl, ha2⟩ | ⟨z, q, rfl, ha2, ha3, ha4, ha5⟩
  · simp (disch := as_aux_lemma => first | omega | simp only [hDs] <;> omega | simp [isCell]) [hRs, takeMarks, resA, resAll, resOne, Value.cells, pz124, t7, t8, t9, h7, h8, h71, h91, slitA, fillA, setRange, ea, eb, h72, storeB_cells, ← hB, hB7, apartA]
    exact fin _ (by simp)
  · simp (disch := as_aux_lemma => first | omega | simp only [hDs] <;> omega | simp [isCell]) [hRs, takeMarks, resA, resAll, resOne, Value.cells, pz124, t7, t8, t9, h7, h8, h71, h91, slitA, fillA, setRange, ea, eb, h72, storeB_cells, ← hB, hB7, apartA, show X7 ≠ z by omega, show X9 ≠ z by omega]
    exact fin _ (by simp)
theorem c124_ok {X7 X8 X9 X11 : Nat} {a b : Value} {may must wc ws sc ss lo hi : Int} {k : Nat} (t7 : tget T 7 = .pointer (some ⟨X7, 0, none⟩)) (t8 : tget T 8 = .pointer (some ⟨X8, 0, none⟩)) (t9 : tget T 9 = .pointer (some ⟨X9, 0, none⟩)) (t10 : tget T 10 = .int .i64 k) (t11 : tget T 11 = .pointer (some ⟨X11, 0, none⟩))
    (g7 : A.get X7 = some (.cells [a, b, .int .i64 may, .int .i64 must] false)) (g8 : A.get X8 = some (.cells [.int .i64 wc, .int .i64 sc] false)) (g9 : A.get X9 = some (.cells [.int .i64 ws, .int .i64 ss] false)) (g11 : A.get X11 = some (.cells [.int .i64 lo, .int .i64 hi] false)) (hg : g ≤ X7)
    (hQ : ∀ T' A', KeepT pk124 T T' → But X7 A A' → A'.get X7 = some (.cells [a, b, .int .i64 (if may < 0 ∧ min wc ws < hi then k else may), .int .i64 must] false) → Q .normal ⟨T', D, A'⟩) : W AP KL g rd pc124 ⟨T, D, A⟩ Q := by
  have yes : may < 0 → min wc ws < hi → ∀ T', KeepT pk124 T T' → Q .normal ⟨T', D, A.set X7 (some (.cells [a, b, .int .i64 k, .int .i64 must] false))⟩ := fun h1 h2 T' hk => hQ _ _ hk (But.set (Hp.lt_of_get g7) (Ext'.refl _)) (by rw [get_set_same g7, if_pos ⟨h1, h2⟩])
  have no : ¬ (may < 0 ∧ min wc ws < hi) → ∀ T', KeepT pk124 T T' → Q .normal ⟨T', D, A⟩ := fun h T' hk => hQ _ _ hk (But.of_ext (Ext'.refl _)) (by rw [g7, if_neg h])
  by_cases hm : may < 0
  · by_cases h1 : wc < hi
    · simp (disch := as_aux_lemma => first | omega | simp only [hDs] <;> omega | simp [isCell]) [hRs, takeMarks, resA, resAll, resOne, Value.cells, pc124, t7, t8, t10, t11, g7, g8, g11, hm, h1, storeB_cells, setRange]
      exact yes hm (by omega) _ (by simp)
    · by_cases h2 : ws < hi
      · simp (disch := as_aux_lemma => first | omega | simp only [hDs] <;> omega | simp [isCell]) [hRs, takeMarks, resA, resAll, resOne, Value.cells, pc124, t7, t8, t9, t10, t11, g7, g8, g9, g11, hm, h1, h2, storeB_cells, setRange]
        exact yes hm (by omega) _ (by simp)
      · simp (disch := as_aux_lemma => first | omega | simp only [hDs] <;> omega | simp [isCell]) [hRs, takeMarks, resA, resAll, resOne, Value.cells, pc124, t7, t8, t9, t11, g7, g8, g9, g11, hm, h1, h2]
        exact no (by omega) _ (by simp)
  · simp (disch := as_aux_lemma => first | omega | simp only [hDs] <;> omega | simp [isCell]) [hRs, takeMarks, resA, resAll, resOne, Value.cells, pc124, t7, g7, hm]
    exact no (by omega) _ (by simp)
theorem d124_ok {X7 X8 X9 X11 : Nat} {a b : Value} {may must wc ws sc ss lo hi : Int} {k : Nat} (t7 : tget T 7 = .pointer (some ⟨X7, 0, none⟩)) (t8 : tget T 8 = .pointer (some ⟨X8, 0, none⟩)) (t9 : tget T 9 = .pointer (some ⟨X9, 0, none⟩)) (t10 : tget T 10 = .int .i64 k) (t11 : tget T 11 = .pointer (some ⟨X11, 0, none⟩))
    (g7 : A.get X7 = some (.cells [a, b, .int .i64 may, .int .i64 must] false)) (g8 : A.get X8 = some (.cells [.int .i64 wc, .int .i64 sc] false)) (g9 : A.get X9 = some (.cells [.int .i64 ws, .int .i64 ss] false)) (g11 : A.get X11 = some (.cells [.int .i64 lo, .int .i64 hi] false)) (hg : g ≤ X7)
    (hQ : ∀ T' A', KeepT pk124 T T' → But X7 A A' → A'.get X7 = some (.cells [a, b, .int .i64 may, .int .i64 (if must < 0 ∧ min sc ss < lo then k else must)] false) → Q .normal ⟨T', D, A'⟩) : W AP KL g rd pd124 ⟨T, D, A⟩ Q := by
  have yes : must < 0 → min sc ss < lo → ∀ T', KeepT pk124 T T' → Q .normal ⟨T', D, A.set X7 (some (.cells [a, b, .int .i64 may, .int .i64 k] false))⟩ := fun h1 h2 T' hk => hQ _ _ hk (But.set (Hp.lt_of_get g7) (Ext'.refl _)) (by rw [get_set_same g7, if_pos ⟨h1, h2⟩])
  have no : ¬ (must < 0 ∧ min sc ss < lo) → ∀ T', KeepT pk124 T T' → Q .normal ⟨T', D, A⟩ := fun h T' hk => hQ _ _ hk (But.of_ext (Ext'.refl _)) (by rw [g7, if_neg h])
  by_cases hm : must < 0
  · by_cases h1 : sc < lo
    · simp (disch := as_aux_lemma => first | omega | simp only [hDs] <;> omega | simp [isCell]) [hRs, takeMarks, resA, resAll, resOne, Value.cells, pd124, t7, t8, t10, t11, g7, g8, g11, hm, h1, storeB_cells, setRange]
      exact yes hm (by omega) _ (by simp)
    · by_cases h2 : ss < lo
      · simp (disch := as_aux_lemma => first | omega | simp only [hDs] <;> omega | simp [isCell]) [hRs, takeMarks, resA, resAll, resOne, Value.cells, pd124, t7, t8, t9, t10, t11, g7, g8, g9, g11, hm, h1, h2, storeB_cells, setRange]
        exact yes hm (by omega) _ (by simp)
      · simp (disch := as_aux_lemma => first | omega | simp only [hDs] <;> omega | simp [isCell]) [hRs, takeMarks, resA, resAll, resOne, Value.cells, pd124, t7, t8, t9, t11, g7, g8, g9, g11, hm, h1, h2]
        exact no (by omega) _ (by simp)
  · simp (disch := as_aux_lemma => first | omega | simp only [hDs] <;> omega | simp [isCell]) [hRs, takeMarks, resA, resAll, resOne, Value.cells, pd124, t7, g7, hm]
    exact no (by omega) _ (by simp)
def But2 (x y : Nat) (A A' : Hp) : Prop := A.n ≤ A'.n ∧ ∀ z, z < A.n → z ≠ x → z ≠ y → A'.get z = A.get z
theorem e124_ok {S : Sec} {X2 X8 X9 X11 : Nat} {wc ws sc ss lo hi : Int} {ro : Bool} (t2 : tget T 2 = .pointer (some ⟨X2, 0, none⟩)) (t8 : tget T 8 = .pointer (some ⟨X8, 0, none⟩)) (t9 : tget T 9 = .pointer (some ⟨X9, 0, none⟩)) (t11 : tget T 11 = .pointer (some ⟨X11, 0, none⟩))
    (g2 : A.get X2 = some (.cells S.cells ro)) (g8 : A.get X8 = some (.cells [.int .i64 wc, .int .i64 sc] false)) (g9 : A.get X9 = some (.cells [.int .i64 ws, .int .i64 ss] false)) (g11 : A.get X11 = some (.cells [.int .i64 lo, .int .i64 hi] false)) (hg : g ≤ X8) (hg' : g ≤ X9) (h89 : X8 ≠ X9) (h28 : X2 ≠ X8) (h29 : X2 ≠ X9)
    (hQ : ∀ T' A', KeepT pk124 T T' → But2 X8 X9 A A' → A'.get X8 = some (.cells [.int .i64 (if S.toe < hi then wr .i64 (wc - S.wh) else wc), .int .i64 sc] false) → A'.get X9 = some (.cells [.int .i64 (if S.toe < hi then wr .i64 (ws - S.wh) else ws), .int .i64 ss] false) → Q .normal ⟨T', D, A'⟩) : W AP KL g rd pe124 ⟨T, D, A⟩ Q := by
  have h8n := Hp.lt_of_get g8
  have h9n := Hp.lt_of_get g9
  by_cases hm : S.toe < hi
  · have g9' : ∀ b', (A.set X8 b').get X9 = _ := fun b' => (get_set_ne h8n (Ne.symm h89)).trans g9
    have g2' : ∀ b', (A.set X8 b').get X2 = _ := fun b' => (get_set_ne h8n h28).trans g2
    simp (disch := as_aux_lemma => first | omega | simp only [hDs] <;> omega | simp [isCell]) [hRs, takeMarks, resA, resAll, resOne, Value.cells, pe124, t2, t8, t9, t11, g2, g2', g8, g9, g9', g11, hm, Sec.cells, storeB_cells, setRange]
    refine hQ _ _ (by simp) ⟨by simp, fun z hz h1 h2 => by rw [get_set_ne (by simpa using h9n) h2, get_set_ne h8n h1]⟩ ?_ ?_
    · rw [get_set_ne (by simpa using h9n) h89, get_set_same g8]; simp [hm]
    · rw [get_set_same (g9' _)]; simp [hm]
  · simp (disch := as_aux_lemma => first | omega | simp only [hDs] <;> omega | simp [isCell]) [hRs, takeMarks, resA, resAll, resOne, Value.cells, pe124, t2, t11, g2, g11, hm, Sec.cells]
    exact hQ _ _ (by simp) ⟨by omega, fun _ _ _ _ => rfl⟩ (by rw [g8]; simp [hm]) (by rw [g9]; simp [hm])
theorem f124_ok {S : Sec} {X2 X8 X9 X11 : Nat} {wc ws sc ss lo hi : Int} {ro : Bool} (t2 : tget T 2 = .pointer (some ⟨X2, 0, none⟩)) (t8 : tget T 8 = .pointer (some ⟨X8, 0, none⟩)) (t9 : tget T 9 = .pointer (some ⟨X9, 0, none⟩)) (t11 : tget T 11 = .pointer (some ⟨X11, 0, none⟩))
    (g2 : A.get X2 = some (.cells S.cells ro)) (g8 : A.get X8 = some (.cells [.int .i64 wc, .int .i64 sc] false)) (g9 : A.get X9 = some (.cells [.int .i64 ws, .int .i64 ss] false)) (g11 : A.get X11 = some (.cells [.int .i64 lo, .int .i64 hi] false)) (hg : g ≤ X8) (hg' : g ≤ X9) (h89 : X8 ≠ X9) (h28 : X2 ≠ X8) (h29 : X2 ≠ X9)
    (hQ : ∀ T' A', KeepT pk124 T T' → But2 X8 X9 A A' → A'.get X8 = some (.cells [.int .i64 wc, .int .i64 (if S.toe < lo then wr .i64 (sc - S.wl) else sc)] false) → A'.get X9 = some (.cells [.int .i64 ws, .int .i64 (if S.toe < lo then wr .i64 (ss - S.wl) else ss)] false) → Q .normal ⟨T', D, A'⟩) : W AP KL g rd pf124 ⟨T, D, A⟩ Q := by
  have h8n := Hp.lt_of_get g8
  have h9n := Hp.lt_of_get g9
  by_cases hm : S.toe < lo
  · have g9' : ∀ b', (A.set X8 b').get X9 = _ := fun b' => (get_set_ne h8n (Ne.symm h89)).trans g9
    have g2' : ∀ b', (A.set X8 b').get X2 = _ := fun b' => (get_set_ne h8n h28).trans g2
    simp (disch := as_aux_lemma => first | omega | simp only [hDs] <;> omega | simp [isCell]) [hRs, takeMarks, resA, resAll, resOne, Value.cells, pf124, t2, t8, t9, t11, g2, g2', g8, g9, g9', g11, hm, Sec.cells, storeB_cells, setRange]
    refine hQ _ _ (by simp) ⟨by simp, fun z hz h1 h2 => by rw [get_set_ne (by simpa using h9n) h2, get_set_ne h8n h1]⟩ ?_ ?_
    · rw [get_set_ne (by simpa using h9n) h89, get_set_same g8]; simp [hm]
    · rw [get_set_same (g9' _)]; simp [hm]
  · simp (disch := as_aux_lemma => first | omega | simp only [hDs] <;> omega | simp [isCell]) [hRs, takeMarks, resA, resAll, resOne, Value.cells, pf124, t2, t11, g2, g11, hm, Sec.cells]
    exact hQ _ _ (by simp) ⟨by omega, fun _ _ _ _ => rfl⟩ (by rw [g8]; simp [hm]) (by rw [g9]; simp [hm])
end
end Go.Ab.Dike
namespace Go.Ab.Dike
open Go Go.Ab
theorem body124_eq : body124 = .seq (.seq (.ops [oM 38 10, oM 39 1, oP 40 (.len (.t 39)), oB 41 .lss 38 40]) (.cond (.t 41) .skip (.exit 2)))
    (.seq (.block 3 (.seq pa124 (.seq pb124 (.seq pc124 (.seq pd124 (.seq pe124 pf124)))))) (.ops [oM 42 10, oC 43 .add 42 1, oM 10 43])) := rfl
section
variable {g : Nat} {rd : Option Nat} {T : List Value} {D : List Nat} {A : Hp} {Q : Ex → St → Prop} {V : Value → Hp → Prop}
def row8 (s : HS) : ABlk := .cells [.int .i64 s.wc, .int .i64 s.sc] false
def row9 (s : HS) : ABlk := .cells [.int .i64 s.ws, .int .i64 s.ss] false
theorem loop124 {S : Sec} {A1 : Hp} {X2 X7 X8 X9 N n : Nat} {zs : List Int} {sl : Value} {ro2 : Bool} (hsl : ∀ A : Hp, (∀ z, z < N → z ≠ X7 → z ≠ X8 → z ≠ X9 → A.get z = A1.get z) → RdS A 2 n (ints zs) sl ∧ A.get X2 = some (.cells S.cells ro2)) (hn : n ≤ 1000) (h78 : X7 ≠ X8) (h79 : X7 ≠ X9) (h89 : X8 ≠ X9) (h7N : X7 < N) (h8N : X8 < N) (h9N : X9 < N) (h27 : X2 ≠ X7) (h28 : X2 ≠ X8) (h29 : X2 ≠ X9) (h2N : X2 < N)
    (hg7 : g ≤ X7) (hg8 : g ≤ X8) (hg9 : g ≤ X9) (hgN : g ≤ N)
    (hend : ∀ T' A' a b, KeepT [2, 4, 7, 8, 9] T T' → A'.get X7 = some (row6 a b (holdS S zs n)) → A'.get X8 = some (row8 (holdS S zs n)) → A'.get X9 = some (row9 (holdS S zs n)) → AccS N A' 2 (ints (crL S zs n)) a → AccS N A' 2 (ints (stL S zs n)) b → (∀ z, blkOf a = some z → blkOf b ≠ some z) →
      N ≤ A'.n → (∀ z, z < N → z ≠ X7 → z ≠ X8 → z ≠ X9 → A'.get z = A1.get z) → Q (.exit 2) ⟨T', D, A'⟩)
    (t1 : tget T 1 = sl) (t2 : tget T 2 = .pointer (some ⟨X2, 0, none⟩)) (t7 : tget T 7 = .pointer (some ⟨X7, 0, none⟩)) (t8 : tget T 8 = .pointer (some ⟨X8, 0, none⟩)) (t9 : tget T 9 = .pointer (some ⟨X9, 0, none⟩)) :
    ∀ (k i : Nat) {T1 : List Value} {A : Hp} {a b : Value}, i + k = n → KeepT [1, 2, 4, 7, 8, 9] T T1 → tget T1 10 = .int .i64 i → A.get X7 = some (row6 a b (holdS S zs i)) → A.get X8 = some (row8 (holdS S zs i)) → A.get X9 = some (row9 (holdS S zs i)) →
      AccS N A 2 (ints (crL S zs i)) a → AccS N A 2 (ints (stL S zs i)) b → (∀ z, blkOf a = some z → blkOf b ≠ some z) → N ≤ A.n → (∀ z, z < N → z ≠ X7 → z ≠ X8 → z ≠ X9 → A.get z = A1.get z) → W AP KL g rd (.loop body124) ⟨T1, D, A⟩ Q := by
  intro k
  induction k with
  | zero =>
    intro i T1 A a b hik hk t10 g7 g8 g9 ha hb hab hN hold
    have : i = n := by omega
    subst this
    have u1 := (hk.at 1 rfl).trans t1
    rw [W_loop]
    simp (disch := as_aux_lemma => first | omega | simp only [hDs] <;> omega | simp [isCell]) [hRs, takeMarks, resA, resAll, resOne, Value.cells, body124, t10, u1, (hsl A hold).1.len]
    refine hend _ A a b ?_ g7 g8 g9 ha hb hab hN hold
    simp [hk.at 2 rfl, hk.at 4 rfl, hk.at 7 rfl, hk.at 8 rfl, hk.at 9 rfl]
  | succ k ih =>
    intro i T1 A a b hik hk t10 g7 g8 g9 ha hb hab hN hold
    have u1 : tget T1 1 = _ := (hk.at 1 rfl).trans t1
    have u2 : tget T1 2 = _ := (hk.at 2 rfl).trans t2
    have u7 : tget T1 7 = _ := (hk.at 7 rfl).trans t7
    have u8 : tget T1 8 = _ := (hk.at 8 rfl).trans t8
    have u9 : tget T1 9 = _ := (hk.at 9 rfl).trans t9
    have hr0 := (hsl A hold).1
    have hzl := hr0.1
    rw [ints_length] at hzl
    have h2n := Hp.lt_of_get (hsl A hold).2
    obtain ⟨s, hs⟩ : ∃ s, s = holdS S zs i := ⟨_, rfl⟩
    rw [← hs] at g7 g8 g9
    rw [W_loop]
    simp (disch := as_aux_lemma => first | omega | simp only [hDs] <;> omega | simp [isCell]) [hRs, takeMarks, resA, resAll, resOne, Value.cells, body124_eq, t10, u1, hr0.len, show ((i : Int) < n) by omega]
    refine a124_ok (N := N) (k := i) (a := a) (b := b) (ca := crL S zs i) (cb := stL S zs i) (by simp [u7]) (by simp [u8]) (by simp [u9]) g7 g8 g9 ha hb hab (crL_length S zs i) (stL_length S zs i) (by omega) hg7 hgN h7N h8N h9N h78 h79 (by omega) ?_
    intro T2 C a' b' k2 c7 hac hbc hab' hCn hCo
    have hCold : ∀ z, z < N → z ≠ X7 → z ≠ X8 → z ≠ X9 → C.get z = A1.get z := fun z hz z7 z8 z9 => (hCo z hz z7).trans (hold z hz z7 z8 z9)
    obtain ⟨hr, hC2⟩ := hsl C hCold
    obtain ⟨x, c, ro, rfl, hx⟩ := hr.at (i := i) (by omega)
    have v1 := (show tget T2 1 = tget T1 1 by rw [k2.at 1 rfl]; simp).trans u1
    have v10 : tget T2 10 = .int .i64 i := by rw [k2.at 10 rfl]; simp [t10]
    have v2 := (show tget T2 2 = tget T1 2 by rw [k2.at 2 rfl]; simp).trans u2
    have v7 := (show tget T2 7 = tget T1 7 by rw [k2.at 7 rfl]; simp).trans u7
    have v8 := (show tget T2 8 = tget T1 8 by rw [k2.at 8 rfl]; simp).trans u8
    have v9 := (show tget T2 9 = tget T1 9 by rw [k2.at 9 rfl]; simp).trans u9
    have v4 : tget T2 4 = tget T1 4 := by rw [k2.at 4 rfl]; simp
    simp only [SeqQ_normal]
    simp (disch := as_aux_lemma => first | omega | simp only [hDs] <;> omega | simp [isCell]) [hRs, takeMarks, resA, resAll, resOne, Value.cells, pb124, v1, v10, idxSA_ok, hx, ints_two, storeB_cells, setRange, set_push_eq]
    obtain ⟨lo, hlo⟩ : ∃ lo, lo = gi zs (i * 2) := ⟨_, rfl⟩
    obtain ⟨hi, hhi⟩ : ∃ hi, hi = gi zs (i * 2 + 1) := ⟨_, rfl⟩
    rw [← hlo, ← hhi]
    obtain ⟨B, hB⟩ : ∃ B, B = C.push (.cells [.int .i64 lo, .int .i64 hi] false) := ⟨_, rfl⟩
    rw [← hB]
    have hBn : B.n = C.n + 1 := by rw [hB]; rfl
    have hBo : ∀ z, z < C.n → B.get z = C.get z := fun z hz => by rw [hB, get_push_old hz]
    have hB11 : B.get C.n = some (.cells [.int .i64 lo, .int .i64 hi] false) := by rw [hB, get_push_new]
    have hB7 := (hBo X7 (by omega)).trans c7
    have hB8 := (hBo X8 (by omega)).trans ((hCo X8 h8N (Ne.symm h78)).trans g8)
    have hB9 := (hBo X9 (by omega)).trans ((hCo X9 h9N (Ne.symm h79)).trans g9)
    have hB2 := (hBo X2 (by omega)).trans hC2
    refine c124_ok (X7 := X7) (X8 := X8) (X9 := X9) (X11 := C.n) (k := i) (lo := lo) (hi := hi) (by simp [v7]) (by simp [v8]) (by simp [v9]) (by simp [v10]) (by simp) hB7 hB8 hB9 hB11 hg7 ?_
    intro T3 A3 k3 b3 g73
    simp only [SeqQ_normal, W_seq]
    have n3 := b3.1
    refine d124_ok (X7 := X7) (X8 := X8) (X9 := X9) (X11 := C.n) (k := i) (lo := lo) (hi := hi) (by rw [k3.at 7 rfl]; simp [v7]) (by rw [k3.at 8 rfl]; simp [v8]) (by rw [k3.at 9 rfl]; simp [v9]) (by rw [k3.at 10 rfl]; simp [v10]) (by rw [k3.at 11 rfl]; simp) g73 ((b3.2 X8 (by omega) (Ne.symm h78)).trans hB8) ((b3.2 X9 (by omega) (Ne.symm h79)).trans hB9) ((b3.2 C.n (by omega) (by omega)).trans hB11) hg7 ?_
    intro T4 A4 k4 b4 g74
    simp only [SeqQ_normal, W_seq]
    have k34 := k3.trans k4
    have n4 := b4.1
    have o4 : ∀ z, z < B.n → z ≠ X7 → A4.get z = B.get z := fun z hz hz7 => (b4.2 z (by omega) hz7).trans (b3.2 z hz hz7)
    refine e124_ok (S := S) (X2 := X2) (X8 := X8) (X9 := X9) (X11 := C.n) (lo := lo) (hi := hi) (by rw [k34.at 2 rfl]; simp [v2]) (by rw [k34.at 8 rfl]; simp [v8]) (by rw [k34.at 9 rfl]; simp [v9]) (by rw [k34.at 11 rfl]; simp) ((o4 X2 (by omega) h27).trans hB2) ((o4 X8 (by omega) (Ne.symm h78)).trans hB8) ((o4 X9 (by omega) (Ne.symm h79)).trans hB9) ((o4 C.n (by omega) (by omega)).trans hB11) hg8 hg9 h89 h28 h29 ?_
    intro T5 A5 k5 b5 g85 g95
    simp only [SeqQ_normal]
    have k35 := k34.trans k5
    have n5 := b5.1
    have o5 : ∀ z, z < B.n → z ≠ X7 → z ≠ X8 → z ≠ X9 → A5.get z = B.get z := fun z hz z7 z8 z9 => (b5.2 z (by omega) z8 z9).trans (o4 z hz z7)
    refine f124_ok (S := S) (X2 := X2) (X8 := X8) (X9 := X9) (X11 := C.n) (lo := lo) (hi := hi) (by rw [k35.at 2 rfl]; simp [v2]) (by rw [k35.at 8 rfl]; simp [v8]) (by rw [k35.at 9 rfl]; simp [v9]) (by rw [k35.at 11 rfl]; simp) ((o5 X2 (by omega) h27 h28 h29).trans hB2) g85 g95 ((o5 C.n (by omega) (by omega) (by omega) (by omega)).trans hB11) hg8 hg9 h89 h28 h29 ?_
    intro T6 A6 k6 b6 g86 g96
    have k36 := k35.trans k6
    have n6 := b6.1
    have o6 : ∀ z, z < B.n → z ≠ X7 → z ≠ X8 → z ≠ X9 → A6.get z = B.get z := fun z hz z7 z8 z9 => (b6.2 z (by omega) z8 z9).trans (o5 z hz z7 z8 z9)
    have g76 : A6.get X7 = A4.get X7 := by rw [b6.2 X7 (by omega) h78 h79, b5.2 X7 (by omega) h78 h79]
    have e3 := wrId (n := (i : Int) + 1) (by omega) (by omega)
    have q10 : tget T6 10 = .int .i64 i := by rw [k36.at 10 rfl]; simp [v10]
    have q1 : tget T6 1 = tget T2 1 := by rw [k36.at 1 rfl]; simp
    simp (disch := as_aux_lemma => first | omega | simp only [hDs] <;> omega | simp [isCell]) [hRs, takeMarks, resA, resAll, resOne, Value.cells, q10, e3]
    have acc : ∀ {cs : List Int} {sv : Value}, AccS N C 2 (ints cs) sv → AccS N A6 2 (ints cs) sv := fun h => AccS.keepB h fun z hz => by
      have := h.blk_ge hz
      exact (o6 z (by omega) (by omega) (by omega) (by omega)).trans (hBo z this.2)
    have hst := holdS_step S zs i
    rw [← hs, ← hlo, ← hhi] at hst
    refine ih (i + 1) (a := a') (b := b') (by omega) ?_ (by simp) ?_ ?_ ?_ ?_ ?_ hab' (by omega) ?_
    · refine hk.trans ?_
      simp [k36.at 1 rfl, k36.at 2 rfl, k36.at 4 rfl, k36.at 7 rfl, k36.at 8 rfl, k36.at 9 rfl, v1, u1, v2, u2, v4, v7, u7, v8, u8, v9, u9]
    · rw [g76, g74, hst]; rfl
    · rw [g86, hst]; rfl
    · rw [g96, hst]; rfl
    · have : crL S zs (i + 1) = crL S zs i ++ [s.wc, s.sc] := by rw [hs]; rfl
      rw [this]; exact acc hac
    · have : stL S zs (i + 1) = stL S zs i ++ [s.ws, s.ss] := by rw [hs]; rfl
      rw [this]; exact acc hbc
    · intro z hz z7 z8 z9
      rw [o6 z (by omega) z7 z8 z9, hBo z (by omega), hCold z hz z7 z8 z9]
theorem w124 {S : Sec} {n : Nat} {zs : List Int} {sl : Value} (hsl : RdS A 2 n (ints zs) sl) (hn : n < 1000000) (hg : g ≤ A.n) (hV : ∀ v A', Ext' A A' → HoldOut S zs n A.n v A' → V v A') : WF AP KL g 124 [.agg ⟨S.cells⟩, sl] A V := by
  rw [WF_body (show KL 124 = none from rfl) (show AP 124 = some F124 from rfl)]
  have hzl := hsl.1
  rw [ints_length] at hzl
  have hSc : partA S.cells 0 (some 8) = some (.agg ⟨S.cells⟩) := rfl
  simp (disch := as_aux_lemma => first | omega | simp only [hDs] <;> omega | simp [isCell]) [hRs, takeMarks, resA, resAll, resOne, Value.cells, F124, hSc]
  obtain ⟨B, hB⟩ : ∃ B, B = (A.push (.cells S.cells false)).push (.cells [.slice none 0 0, .slice none 0 0, .int .i64 0, .int .i64 0] false) := ⟨_, rfl⟩
  rw [← hB]
  have hBn : B.n = A.n + 2 := by rw [hB]; rfl
  have eB : Ext' A B := by rw [hB]; exact (Ext'.push A _).trans (Ext'.push _ _)
  have b2 : B.get A.n = some (.cells S.cells false) := by rw [hB, get_push_old (by simp), get_push_new]
  have b4 : B.get (A.n + 1) = some (.cells [.slice none 0 0, .slice none 0 0, .int .i64 0, .int .i64 0] false) := by rw [hB, get_push_eq (by simp)]
  refine w158 fun A1 e1 => ?_
  have c4 := e1.get b4
  have bad : ∀ (A2 : Hp) (e : Int), A2.get (A.n + 1) = some (.cells [.slice none 0 0, .slice none 0 0, .int .i64 0, .int .i64 0] false) → But (A.n + 1) B A2 → holdE S zs n = e → e ≠ 0 → V (.tuple ⟨[fateV (.slice none 0 0) (.slice none 0 0) 0 0, .int .i64 e]⟩) A2 := by
    intro A2 e _ he hh h0
    have := he.1
    refine hV _ _ ⟨by omega, fun z hz => ?_⟩ (.inl ⟨by rw [hh]; exact h0, by rw [hh]⟩)
    rw [he.2 z (by omega) (by omega), eB.2 z hz]
  cases hok : S.ok with
  | false =>
    have he : holdE S zs n = 3 := by simp [holdE, hok]
    have gs := get_set_same (b := some (.cells [.slice none 0 0, .slice none 0 0, .int .i64 0, .int .i64 0] false)) c4
    simp (disch := as_aux_lemma => first | omega | simp only [hDs] <;> omega | simp [isCell]) [hRs, takeMarks, resA, resAll, resOne, Value.cells, hok, fillA, setRange, c4, storeB_cells, gs]
    exact bad _ 3 gs (But.set (by omega) e1) he (by decide)
  | true =>
    by_cases h1000 : (1000 : Int) < n
    · have he : holdE S zs n = 9 := by simp [holdE, hok, show 1000 < n by omega]
      have gs := get_set_same (b := some (.cells [.slice none 0 0, .slice none 0 0, .int .i64 0, .int .i64 0] false)) c4
      simp (disch := as_aux_lemma => first | omega | simp only [hDs] <;> omega | simp [isCell]) [hRs, takeMarks, resA, resAll, resOne, Value.cells, hok, hsl.len, h1000, fillA, setRange, c4, storeB_cells, gs]
      exact bad _ 9 gs (But.set (by omega) e1) he (by decide)
    · simp (disch := as_aux_lemma => first | omega | simp only [hDs] <;> omega | simp [isCell]) [hRs, takeMarks, resA, resAll, resOne, Value.cells, hok, hsl.len, h1000]
      have hsl1 := (eB.trans e1).rdS hsl
      have n1 := e1.1
      refine loop124c (A0 := A1) (X4 := A.n + 1) (n := n) (zs := zs) (sl := sl) hsl1 (by omega) c4 (by omega) ?_ ?_ (T := _) ?_ ?_ n 0 (by omega) (fun j hj => absurd hj (by omega)) (Ext'.refl _) (fun _ _ => rfl) (by simp)
      · intro T' A' hany hb c4' t4 t5
        have he : holdE S zs n = 3 := by simp only [holdE, hok, hany]; simp [show ¬ 1000 < n by omega]
        simp at t4
        simp (disch := as_aux_lemma => first | omega | simp only [hDs] <;> omega | simp [isCell]) [hRs, takeMarks, resA, resAll, resOne, Value.cells, t4, t5, c4']
        exact bad A' 3 c4' ⟨by have := hb.1; omega, fun z hz hz4 => (hb.2 z (by omega) hz4).trans (e1.2 z hz)⟩ he (by decide)
      · intro T' A2 hany e2 hk
        have he : holdE S zs n = 0 := by simp only [holdE, hok, hany]; simp [show ¬ 1000 < n by omega]
        have c42 := e2.get c4
        have c22 := e2.get (e1.get b2)
        have n2 := e2.1
        have t1 := hk.at 1 rfl
        have t2 := hk.at 2 rfl
        have t4 := hk.at 4 rfl
        simp at t1 t2 t4
        simp (disch := as_aux_lemma => first | omega | simp only [hDs] <;> omega | simp [isCell]) [hRs, takeMarks, resA, resAll, resOne, Value.cells, t1, t2, t4, fillA, setRange, storeB_cells, set_push_eq, c22, Sec.cells, apartA, show A2.n + 1 ≠ A.n by omega]
        obtain ⟨A3, hA3⟩ : ∃ A3, A3 = ((A2.push (.cells [.slice none 0 0, .slice none 0 0, .int .i64 (-1), .int .i64 (-1)] false)).push (.cells [.int .i64 S.cl, .int .i64 S.ch] false)).push (.cells [.int .i64 S.sl, .int .i64 S.sh] false) := ⟨_, rfl⟩
        first
          | rw [← hA3]
          | trace_state
        have hA3n : A3.n = A2.n + 3 := by rw [hA3]; rfl
        have e3 : Ext' A2 A3 := by rw [hA3]; exact (Ext'.push _ _).trans ((Ext'.push _ _).trans (Ext'.push _ _))
        have g7 : A3.get A2.n = some (row6 (.slice none 0 0) (.slice none 0 0) (holdS S zs 0)) := by rw [hA3, get_push_old (by simp; omega), get_push_old (by simp), get_push_new]; rfl
        have g8 : A3.get (A2.n + 1) = some (row8 (holdS S zs 0)) := by rw [hA3, get_push_old (by simp), get_push_eq (by simp)]; rfl
        have g9 : A3.get (A2.n + 2) = some (row9 (holdS S zs 0)) := by rw [hA3, get_push_eq (by simp)]; rfl
        refine loop124 (S := S) (A1 := A3) (X2 := A.n) (X7 := A2.n) (X8 := A2.n + 1) (X9 := A2.n + 2) (N := A2.n + 3) (n := n) (zs := zs) (sl := sl) (ro2 := false) ?_ (by omega) (by omega) (by omega) (by omega) (by omega) (by omega) (by omega) (by omega) (by omega) (by omega) (by omega) (by omega) (by omega) (by omega) (by omega) ?_ (T := _) ?_ ?_ ?_ ?_ ?_ n 0 (a := .slice none 0 0) (b := .slice none 0 0) (by omega) (fun _ _ => rfl) (by simp) g7 g8 g9 AccS.nil AccS.nil (fun z h => by cases h) (by omega) (fun z _ _ _ _ => rfl)
        · intro A' h
          have hA' : ∀ z, z < A2.n → A'.get z = A2.get z := fun z hz => by rw [h z (by omega) (by omega) (by omega) (by omega), e3.2 z hz]
          exact ⟨((eB.trans (e1.trans e2)).rdS hsl).mono hA', (hA' _ (by omega)).trans c22⟩
        · intro T2 A' a b hk q7 q8 q9 hac hbc hab hN ho
          have u7 := hk.at 7 rfl
          have u8 := hk.at 8 rfl
          have u9 := hk.at 9 rfl
          have u4 := hk.at 4 rfl
          simp [t4] at u7 u8 u9 u4
          simp only [BlkQ_exit, SeqQ_normal, if_true]
          show W AP KL g _ (.seq pz124 _) _ _
          rw [W_seq]
          refine z124_ok (N := A2.n + 3) (k := n) u7 u8 u9 q7 q8 q9 hac hbc hab (crL_length S zs n) (stL_length S zs n) (by omega) (by omega) (by omega) (by omega) (by omega) (by omega) (by omega) (by omega) hN ?_
          intro T3 C a' b' k3 c7 hac' hbc' _ hCn hCo
          have hC : ∀ z, z < A2.n → C.get z = A2.get z := fun z hz => by rw [hCo z (by omega) (by omega), ho z (by omega) (by omega) (by omega) (by omega), e3.2 z hz]
          have c44 : C.get (A.n + 1) = _ := (hC _ (by omega)).trans c42
          have gs : ∀ b', (C.set (A.n + 1) (some b')).get (A.n + 1) = some b' := fun b' => get_set_same c44
          obtain ⟨pa, na, ca, rfl⟩ := hac'.isSlice
          obtain ⟨pb, nb, cb, rfl⟩ := hbc'.isSlice
          have w7 := (k3.at 7 rfl).trans u7
          have w4 := (k3.at 4 rfl).trans u4
          simp (disch := as_aux_lemma => first | omega | simp only [hDs] <;> omega | simp [isCell]) [hRs, takeMarks, resA, resAll, resOne, Value.cells, w7, w4, c7, c44, storeB_cells, gs, setRange]
          refine hV _ _ ⟨by simp; omega, fun z hz => ?_⟩ (.inr ⟨he, _, _, rfl, ?_, ?_⟩)
          · rw [get_set_ne (by omega) (by omega), hC z (by omega), e2.2 z (by omega), e1.2 z (by omega), eB.2 z hz]
          · refine (AccS.keepB hac' fun z hz => get_set_ne (by omega) ?_).weaken (by omega)
            have := (hac'.blk_ge hz).1; omega
          · refine (AccS.keepB hbc' fun z hz => get_set_ne (by omega) ?_).weaken (by omega)
            have := (hbc'.blk_ge hz).1; omega
        · simp [t1]
        · simp [t2]
        · simp
        · simp
        · simp
      · simp
      · simp
end
end Go.Ab.Dike
namespace Go.Ab.Dike
open Go Go.Ab
def pb115 : ACode := (.seq
 (.ops [
oD 24 2 8,
oA 25 123 [.t 24] false,
oM 26 1,
oA 27 122 [.t 25, .t 26] false,
oM 23 27,
oX 28 23 0,
oX 29 23 1,
oP 5 (.alloc [.slice none 0 0, .slice none 0 0, .int .i64 0, .int .i64 0]),
oT 5 28 4,
oM 6 29])
 (.seq
 (.ops [
oD 31 2 8,
oM 32 1,
oA 33 124 [.t 31, .t 32] false,
oM 30 33,
oX 34 30 0,
oX 35 30 1,
oP 7 (.alloc [.slice none 0 0, .slice none 0 0, .int .i64 0, .int .i64 0]),
oT 7 34 4,
oM 8 35])
 (.seq
 (.ops [
oF 36 5 0,
oL 37 36,
oF 38 7 0,
oL 39 38,
oA 40 125 [.t 37, .t 39] false,
oM 41 40,
oQ 42 41 true (.fieldAddr (.t 5) 1),
oQ 43 41 true (.load (.t 42) none),
oQ 44 41 true (.fieldAddr (.t 7) 1),
oQ 45 41 true (.load (.t 44) none),
oQ 46 41 true (.call (.k (.func (.func 125) ⟨[]⟩ ⟨[]⟩)) [.t 43, .t 45] false),
oP 47 (.pick (.t 41) (.t 46) (.k (.bool false))),
oM 48 47,
oQ 49 48 true (.fieldAddr (.t 5) 2),
oQ 50 48 true (.load (.t 49) none),
oQ 51 48 true (.fieldAddr (.t 7) 2),
oQ 52 48 true (.load (.t 51) none),
oQ 53 48 true (.bin .eql (.t 50) (.t 52)),
oP 54 (.pick (.t 48) (.t 53) (.k (.bool false))),
oM 55 54,
oQ 56 55 true (.fieldAddr (.t 5) 3),
oQ 57 55 true (.load (.t 56) none),
oQ 58 55 true (.fieldAddr (.t 7) 3),
oQ 59 55 true (.load (.t 58) none),
oQ 60 55 true (.bin .eql (.t 57) (.t 59)),
oP 61 (.pick (.t 55) (.t 60) (.k (.bool false))),
oM 62 61,
oN 63 62 true 6,
oN 64 62 true 8,
oQ 65 62 true (.bin .eql (.t 63) (.t 64)),
oP 66 (.pick (.t 62) (.t 65) (.k (.bool false))),
oM 67 66,
oQ 68 67 true (.call (.k (.func (.func 121) ⟨[]⟩ ⟨[]⟩)) [] false),
oP 69 (.pick (.t 67) (.t 68) (.k (.bool false))),
oM 4 69])
 .ret)))
theorem eq115 : F115 = .fn 70 [.tmp 4] (.seq (.ops [oP 2 (.box (.t 0)), oP 4 (.move (.k (.bool false)))]) (.seq (.seq (.ops [oM 9 1, oP 10 (.len (.t 9)), oC 11 .gtr 10 200, oM 12 11, ⟨some 13, some (12, true), [], .move (.t 1)⟩, ⟨some 14, some (12, true), [], .len (.t 13)⟩, ⟨some 15, some (12, true), [], .bin .leq (.t 14) (.k (.int .i64 1000))⟩,
    oP 16 (.pick (.t 12) (.t 15) (.k (.bool false))), oM 17 16, ⟨some 18, some (17, false), [], .move (.t 1)⟩, ⟨some 19, some (17, false), [], .len (.t 18)⟩, ⟨some 20, some (17, false), [], .bin .gtr (.t 19) (.k (.int .i64 1010))⟩, oP 21 (.pick (.t 17) (.k (.bool true)) (.t 20))])
    (.cond (.t 21) (.seq (.ops [oA 22 121 [] false, oM 4 22]) .ret) .skip)) pb115)) := rfl
section
variable {g : Nat} {A : Hp} {V : Value → Hp → Prop}
theorem w123 {S : Sec} (hg : g ≤ A.n) (hV : ∀ A', Ext' A A' → V (.agg ⟨S.cells⟩) A') : WF AP KL g 123 [.agg ⟨S.cells⟩] A V := by
  rw [WF_body (show KL 123 = none from rfl) (show AP 123 = some F123 from rfl)]
  simp (disch := as_aux_lemma => first | omega | simp only [hDs] <;> omega | simp [isCell]) [hRs, takeMarks, resA, resAll, resOne, Value.cells, F123, Sec.cells, fillA, setRange, storeB_cells, set_push_eq]
  exact hV _ ((Ext'.push A _).trans (Ext'.push _ _))
theorem b115_ok {rd : Option Nat} {T : List Value} {D : List Nat} {Q : Ex → St → Prop} {S : Sec} {X2 n : Nat} {zs : List Int} {sl : Value} (ha : RdS A 2 n (ints zs) sl) (hn : n ≤ 1010) (hg : g ≤ A.n) (h2 : A.get X2 = some (.cells S.cells false)) (t1 : tget T 1 = sl) (t2 : tget T 2 = .pointer (some ⟨X2, 0, none⟩))
    (hQ : ∀ T' A', tget T' 4 = .bool true → Q .ret ⟨T', D, A'⟩) : W AP KL g rd pb115 ⟨T, D, A⟩ Q := by
  have hSc : partA S.cells 0 (some 8) = some (.agg ⟨S.cells⟩) := rfl
  simp (disch := as_aux_lemma => first | omega | simp only [hDs] <;> omega | simp [isCell]) [hRs, takeMarks, resA, resAll, resOne, Value.cells, pb115, t1, t2, h2, hSc]
  refine w123 hg fun A1 e1 => ?_
  have n1 := e1.1
  simp (disch := as_aux_lemma => first | omega | simp only [hDs] <;> omega | simp [isCell]) [hRs, takeMarks, resA, resAll, resOne, Value.cells, t1]
  refine w122 (e1.rdS ha) (by omega) (by omega) fun v A2 e2 ho2 => ?_
  have n2 := e2.1
  have h22 := (e1.trans e2).get h2
  have hx22 := Hp.lt_of_get h22
  have ha2 := (e1.trans e2).rdS ha
  have hl1 : (ints (crL S zs (n + 1))).length = (n + 1) * 2 := by rw [ints_length, crL_length]
  have hl2 : (ints (stL S zs (n + 1))).length = (n + 1) * 2 := by rw [ints_length, stL_length]
  have hz : ∀ A, RdS A 2 0 (ints []) (.slice none 0 0) := fun A => ⟨rfl, .inl ⟨rfl, rfl⟩⟩
  rcases ho2 with ⟨he, rfl⟩ | ⟨he, a, b, rfl, hac, hbc⟩
  · simp (disch := as_aux_lemma => first | omega | simp only [hDs] <;> omega | simp [isCell]) [hRs, takeMarks, resA, resAll, resOne, Value.cells, fateV, setRange, storeB_cells, set_push_eq, h22, t1, t2, hSc]
    have eF := Ext'.push A2 (.cells [.slice none 0 0, .slice none 0 0, .int .i64 0, .int .i64 0] false)
    refine w124 (eF.rdS ha2) (by omega) (by simp; omega) fun v A3 e3 ho3 => ?_
    have hF := e3.get (get_push_new (A := A2) (b := (.cells [.slice none 0 0, .slice none 0 0, .int .i64 0, .int .i64 0] false)))
    rcases ho3 with ⟨_, rfl⟩ | ⟨he', _⟩
    · have := Hp.lt_of_get hF
      simp (disch := as_aux_lemma => first | omega | simp only [hDs] <;> omega | simp [isCell]) [hRs, takeMarks, resA, resAll, resOne, Value.cells, fateV, setRange, storeB_cells, set_push_eq, hF]
      refine w125 (hz _) (hz _) (by decide) ?_
      simp (disch := as_aux_lemma => first | omega | simp only [hDs] <;> omega | simp [isCell]) [hRs, takeMarks, resA, resAll, resOne, Value.cells, hF]
      refine w125 (hz _) (hz _) (by decide) ?_
      simp (disch := as_aux_lemma => first | omega | simp only [hDs] <;> omega | simp [isCell]) [hRs, takeMarks, resA, resAll, resOne, Value.cells, hF]
      exact hQ _ _ (by simp)
    · exact absurd he' he
  · obtain ⟨pa, na, ca, rfl⟩ := hac.isSlice
    obtain ⟨pb, nb, cb, rfl⟩ := hbc.isSlice
    have r1 := hac.rd hl1 (by decide)
    have r2 := hbc.rd hl2 (by decide)
    simp (disch := as_aux_lemma => first | omega | simp only [hDs] <;> omega | simp [isCell]) [hRs, takeMarks, resA, resAll, resOne, Value.cells, fateV, setRange, storeB_cells, set_push_eq, h22, t1, t2, hSc]
    have eF := Ext'.push A2 (.cells [.slice pa na ca, .slice pb nb cb, .int .i64 (holdS S zs n).may, .int .i64 (holdS S zs n).must] false)
    refine w124 (eF.rdS ha2) (by omega) (by simp; omega) fun v A3 e3 ho3 => ?_
    have hF := e3.get (get_push_new (A := A2) (b := (.cells [.slice pa na ca, .slice pb nb cb, .int .i64 (holdS S zs n).may, .int .i64 (holdS S zs n).must] false)))
    rcases ho3 with ⟨he', _⟩ | ⟨_, a', b', rfl, hac', hbc'⟩
    · exact absurd he he'
    · have := Hp.lt_of_get hF
      obtain ⟨pa', na', ca', rfl⟩ := hac'.isSlice
      obtain ⟨pb', nb', cb', rfl⟩ := hbc'.isSlice
      simp (disch := as_aux_lemma => first | omega | simp only [hDs] <;> omega | simp [isCell]) [hRs, takeMarks, resA, resAll, resOne, Value.cells, fateV, setRange, storeB_cells, set_push_eq, hF]
      have eG := (eF.trans e3).trans (Ext'.push A3 (.cells [.slice pa' na' ca', .slice pb' nb' cb', .int .i64 (holdS S zs n).may, .int .i64 (holdS S zs n).must] false))
      have eH := Ext'.push A3 (.cells [.slice pa' na' ca', .slice pb' nb' cb', .int .i64 (holdS S zs n).may, .int .i64 (holdS S zs n).must] false)
      refine w125 (eG.rdS r1) (eH.rdS (hac'.rd hl1 (by decide))) (by omega) ?_
      simp (disch := as_aux_lemma => first | omega | simp only [hDs] <;> omega | simp [isCell]) [hRs, takeMarks, resA, resAll, resOne, Value.cells, hF]
      refine w125 (eG.rdS r2) (eH.rdS (hbc'.rd hl2 (by decide))) (by omega) ?_
      simp (disch := as_aux_lemma => first | omega | simp only [hDs] <;> omega | simp [isCell]) [hRs, takeMarks, resA, resAll, resOne, Value.cells, hF]
      exact hQ _ _ (by simp)
theorem law115 {S : Sec} {n : Nat} {zs : List Int} {sl : Value} (ha : RdS A 2 n (ints zs) sl) (hg : g ≤ A.n) (hV : ∀ A', V (.bool true) A') : WF AP KL g 115 [.agg ⟨S.cells⟩, sl] A V := by
  rw [WF_body (show KL 115 = none from rfl) ((show AP 115 = some F115 from rfl).trans (congrArg some eq115))]
  have eB := Ext'.push A (.cells S.cells false)
  obtain ⟨B, hB⟩ : ∃ B, B = A.push (.cells S.cells false) := ⟨_, rfl⟩
  have hBn : B.n = A.n + 1 := by rw [hB]; rfl
  have hX : B.get A.n = some (.cells S.cells false) := by rw [hB, get_push_new]
  rw [← hB] at eB
  by_cases h1 : (200 : Int) < n
  · by_cases h2 : (n : Int) ≤ 1000
    · simp (disch := as_aux_lemma => first | omega | simp only [hDs] <;> omega | simp [isCell]) [hRs, takeMarks, resA, resAll, resOne, Value.cells, ha.len, h1, h2]
      exact hV _
    · by_cases h3 : (1010 : Int) < n
      · simp (disch := as_aux_lemma => first | omega | simp only [hDs] <;> omega | simp [isCell]) [hRs, takeMarks, resA, resAll, resOne, Value.cells, ha.len, h1, h2, h3]
        exact hV _
      · simp (disch := as_aux_lemma => first | omega | simp only [hDs] <;> omega | simp [isCell]) [hRs, takeMarks, resA, resAll, resOne, Value.cells, ha.len, h1, h2, h3, ← hB]
        refine b115_ok (eB.rdS ha) (by omega) (by omega) hX (by simp) (by simp) fun T' A' t4 => ?_
        simp (disch := as_aux_lemma => first | omega | simp only [hDs] <;> omega | simp [isCell]) [hRs, takeMarks, resA, resAll, resOne, Value.cells, t4]
        exact hV _
  · simp (disch := as_aux_lemma => first | omega | simp only [hDs] <;> omega | simp [isCell]) [hRs, takeMarks, resA, resAll, resOne, Value.cells, ha.len, h1, show ¬ (1010 : Int) < n by omega, ← hB]
    refine b115_ok (eB.rdS ha) (by omega) (by omega) hX (by simp) (by simp) fun T' A' t4 => ?_
    simp (disch := as_aux_lemma => first | omega | simp only [hDs] <;> omega | simp [isCell]) [hRs, takeMarks, resA, resAll, resOne, Value.cells, t4]
    exact hV _
end
end Go.Ab.Dike
