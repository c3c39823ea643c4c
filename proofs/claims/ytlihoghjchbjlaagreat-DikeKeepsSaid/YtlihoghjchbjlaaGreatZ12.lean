/- DikeHolds. -/
import Derived.Test.YtlihoghjchbjlaaGreatZ11
set_option linter.unusedSimpArgs false
set_option linter.unusedVariables false
set_option linter.unusedSectionVars false
namespace Go.Ab.Dike
open Go Go.Ab
def KeepT (l : List Nat) (T T' : List Value) : Prop := ∀ i ∈ l, tget T' i = tget T i
@[simp] theorem KeepT_nil {T T' : List Value} : KeepT [] T T' := fun _ h => by cases h
@[simp] theorem KeepT_cons {a : Nat} {l : List Nat} {T T' : List Value} : KeepT (a :: l) T T' ↔ tget T' a = tget T a ∧ KeepT l T T' := by simp [KeepT]
theorem KeepT.at {l : List Nat} {T T' : List Value} (h : KeepT l T T') (i : Nat) (hi : l.contains i = true) : tget T' i = tget T i := h i (by simpa using hi)
theorem KeepT.trans {l : List Nat} {T T' T'' : List Value} (h : KeepT l T T') (h' : KeepT l T' T'') : KeepT l T T'' := fun i hi => (h' i hi).trans (h i hi)
abbrev pk122 : List Nat := [2, 4, 6, 7, 8, 9, 10, 42, 43, 44]
def pa122 : ACode := (.ops [
oM 46 44,
oI 47 42 44 2,
oD 48 47 2,
oP 10 (.alloc [.int .i64 0, .int .i64 0]),
oM 9 46,
oT 10 48 2])
def pb122 : ACode := (.ops [
oM 49 8,
oP 50 (.call (.t 49) [] false)])
def pc122 : ACode := (.seq
 (.ops [
oF 51 6 2,
oL 52 51,
oC 53 .lss 52 0,
oM 54 53,
oQ 55 54 true (.fieldAddr (.t 7) 0),
oQ 56 54 true (.load (.t 55) (some 2)),
oQ 57 54 true (.fieldAddr (.t 10) 1),
oQ 58 54 true (.load (.t 57) none),
oQ 59 54 true (.call (.k (.func (.func 156) ⟨[]⟩ ⟨[]⟩)) [.t 56, .t 58] false),
oP 60 (.pick (.t 54) (.t 59) (.k (.bool false)))])
 (.cond (.t 60)
 (.ops [
oM 61 9,
oF 62 6 2,
oT 62 61 1])
 .skip))
def pd122 : ACode := (.seq
 (.ops [
oF 63 6 3,
oL 64 63,
oC 65 .lss 64 0,
oM 66 65,
oQ 67 66 true (.fieldAddr (.t 7) 2),
oQ 68 66 true (.load (.t 67) (some 2)),
oQ 69 66 true (.fieldAddr (.t 10) 0),
oQ 70 66 true (.load (.t 69) none),
oQ 71 66 true (.call (.k (.func (.func 156) ⟨[]⟩ ⟨[]⟩)) [.t 68, .t 70] false),
oP 72 (.pick (.t 66) (.t 71) (.k (.bool false)))])
 (.cond (.t 72)
 (.ops [
oM 73 9,
oF 74 6 3,
oT 74 73 1])
 .skip))
def pe122 : ACode := (.seq
 (.ops [
oF 75 10 1,
oL 76 75,
oF 77 2 5,
oL 78 77,
oB 79 .gtr 76 78])
 (.cond (.t 79)
 (.ops [
oF 80 7 0,
oD 81 80 2,
oF 82 2 6,
oF 83 82 1,
oL 84 83,
oA 85 157 [.t 81, .t 84] false,
oF 86 7 0,
oT 86 85 2])
 .skip))
def pf122 : ACode := (.seq
 (.ops [
oF 87 10 0,
oL 88 87,
oF 89 2 5,
oL 90 89,
oB 91 .gtr 88 90])
 (.cond (.t 91)
 (.ops [
oF 92 7 2,
oD 93 92 2,
oF 94 2 6,
oF 95 94 0,
oL 96 95,
oA 97 157 [.t 93, .t 96] false,
oF 98 7 2,
oT 98 97 2])
 .skip))
section
variable {g : Nat} {rd : Option Nat} {T : List Value} {D : List Nat} {A : Hp} {Q : Ex → St → Prop} {V : Value → Hp → Prop}
def But (x : Nat) (A A' : Hp) : Prop := A.n ≤ A'.n ∧ ∀ z, z < A.n → z ≠ x → A'.get z = A.get z
theorem But.of_ext {x : Nat} {A A' : Hp} (h : Ext' A A') : But x A A' := ⟨h.1, fun z hz _ => h.2 z hz⟩
theorem But.set {x : Nat} {A A' : Hp} {b : Option ABlk} (hx : x < A.n) (h : Ext' A A') : But x A (A'.set x b) := ⟨by have := h.1; simpa using this, fun z hz hzx => by rw [get_set_ne (by have := h.1; omega) hzx, h.2 z hz]⟩
theorem c122_ok {X6 X7 X10 : Nat} {a b : Value} {may must wc ws sc ss lo hi : Int} {k : Nat} (h6 : tget T 6 = .pointer (some ⟨X6, 0, none⟩)) (h7 : tget T 7 = .pointer (some ⟨X7, 0, none⟩)) (h9 : tget T 9 = .int .i64 k) (h10 : tget T 10 = .pointer (some ⟨X10, 0, none⟩))
    (g6 : A.get X6 = some (.cells [a, b, .int .i64 may, .int .i64 must] false)) (g7 : A.get X7 = some (.cells [.int .i64 wc, .int .i64 ws, .int .i64 sc, .int .i64 ss] false)) (g10 : A.get X10 = some (.cells [.int .i64 lo, .int .i64 hi] false)) (hg : g ≤ X6)
    (hQ : ∀ T' A', KeepT pk122 T T' → But X6 A A' → A'.get X6 = some (.cells [a, b, .int .i64 (if may < 0 ∧ min wc ws < hi then k else may), .int .i64 must] false) → Q .normal ⟨T', D, A'⟩) : W AP KL g rd pc122 ⟨T, D, A⟩ Q := by
  by_cases hm : may < 0
  · simp (disch := as_aux_lemma => first | omega | simp only [hDs] <;> omega | simp [isCell]) [hRs, takeMarks, resA, resAll, resOne, Value.cells, pc122, h6, h7, h10, g6, g7, g10, hm]
    refine w156 fun A1 e1 => ?_
    have g61 := e1.get g6
    by_cases hw : min wc ws < hi
    · simp (disch := as_aux_lemma => first | omega | simp only [hDs] <;> omega | simp [isCell]) [hRs, takeMarks, resA, resAll, resOne, Value.cells, h6, h9, g61, storeB_cells, hw, setRange]
      exact hQ _ _ (by simp) (But.set (Hp.lt_of_get g6) e1) (by rw [get_set_same g61]; simp [hm, hw])
    · simp (disch := as_aux_lemma => first | omega | simp only [hDs] <;> omega | simp [isCell]) [hRs, takeMarks, resA, resAll, resOne, Value.cells, hw]
      exact hQ _ _ (by simp) (But.of_ext e1) (by rw [g61]; simp [hw])
  · simp (disch := as_aux_lemma => first | omega | simp only [hDs] <;> omega | simp [isCell]) [hRs, takeMarks, resA, resAll, resOne, Value.cells, pc122, h6, g6, hm]
    exact hQ _ _ (by simp) (But.of_ext (Ext'.refl _)) (by rw [g6]; simp [hm])
theorem d122_ok {X6 X7 X10 : Nat} {a b : Value} {may must wc ws sc ss lo hi : Int} {k : Nat} (h6 : tget T 6 = .pointer (some ⟨X6, 0, none⟩)) (h7 : tget T 7 = .pointer (some ⟨X7, 0, none⟩)) (h9 : tget T 9 = .int .i64 k) (h10 : tget T 10 = .pointer (some ⟨X10, 0, none⟩))
    (g6 : A.get X6 = some (.cells [a, b, .int .i64 may, .int .i64 must] false)) (g7 : A.get X7 = some (.cells [.int .i64 wc, .int .i64 ws, .int .i64 sc, .int .i64 ss] false)) (g10 : A.get X10 = some (.cells [.int .i64 lo, .int .i64 hi] false)) (hg : g ≤ X6)
    (hQ : ∀ T' A', KeepT pk122 T T' → But X6 A A' → A'.get X6 = some (.cells [a, b, .int .i64 may, .int .i64 (if must < 0 ∧ min sc ss < lo then k else must)] false) → Q .normal ⟨T', D, A'⟩) : W AP KL g rd pd122 ⟨T, D, A⟩ Q := by
  by_cases hm : must < 0
  · simp (disch := as_aux_lemma => first | omega | simp only [hDs] <;> omega | simp [isCell]) [hRs, takeMarks, resA, resAll, resOne, Value.cells, pd122, h6, h7, h10, g6, g7, g10, hm]
    refine w156 fun A1 e1 => ?_
    have g61 := e1.get g6
    by_cases hw : min sc ss < lo
    · simp (disch := as_aux_lemma => first | omega | simp only [hDs] <;> omega | simp [isCell]) [hRs, takeMarks, resA, resAll, resOne, Value.cells, h6, h9, g61, storeB_cells, hw, setRange]
      exact hQ _ _ (by simp) (But.set (Hp.lt_of_get g6) e1) (by rw [get_set_same g61]; simp [hm, hw])
    · simp (disch := as_aux_lemma => first | omega | simp only [hDs] <;> omega | simp [isCell]) [hRs, takeMarks, resA, resAll, resOne, Value.cells, hw]
      exact hQ _ _ (by simp) (But.of_ext e1) (by rw [g61]; simp [hw])
  · simp (disch := as_aux_lemma => first | omega | simp only [hDs] <;> omega | simp [isCell]) [hRs, takeMarks, resA, resAll, resOne, Value.cells, pd122, h6, g6, hm]
    exact hQ _ _ (by simp) (But.of_ext (Ext'.refl _)) (by rw [g6]; simp [hm])
theorem e122_ok {S : Sec} {X2 X7 X10 : Nat} {wc ws sc ss lo hi : Int} {ro : Bool} (h2 : tget T 2 = .pointer (some ⟨X2, 0, none⟩)) (h7 : tget T 7 = .pointer (some ⟨X7, 0, none⟩)) (h10 : tget T 10 = .pointer (some ⟨X10, 0, none⟩))
    (g2 : A.get X2 = some (.cells S.cells ro)) (g7 : A.get X7 = some (.cells [.int .i64 wc, .int .i64 ws, .int .i64 sc, .int .i64 ss] false)) (g10 : A.get X10 = some (.cells [.int .i64 lo, .int .i64 hi] false)) (hg : g ≤ X7)
    (hQ : ∀ T' A', KeepT pk122 T T' → But X7 A A' → A'.get X7 = some (.cells [.int .i64 (if S.toe < hi then wr .i64 (wc - S.wh) else wc), .int .i64 (if S.toe < hi then wr .i64 (ws - S.wh) else ws), .int .i64 sc, .int .i64 ss] false) → Q .normal ⟨T', D, A'⟩) : W AP KL g rd pe122 ⟨T, D, A⟩ Q := by
  have h7n := Hp.lt_of_get g7
  by_cases hm : S.toe < hi
  · simp (disch := as_aux_lemma => first | omega | simp only [hDs] <;> omega | simp [isCell]) [hRs, takeMarks, resA, resAll, resOne, Value.cells, pe122, h2, h7, h10, g2, g7, g10, hm, Sec.cells]
    refine w157 (by omega) fun A1 e1 => ?_
    have g71 := e1.get g7
    simp (disch := as_aux_lemma => first | omega | simp only [hDs] <;> omega | simp [isCell]) [hRs, takeMarks, resA, resAll, resOne, Value.cells, h7, g71, storeB_cells, setRange]
    exact hQ _ _ (by simp) (But.set h7n e1) (by rw [get_set_same g71]; simp [hm])
  · simp (disch := as_aux_lemma => first | omega | simp only [hDs] <;> omega | simp [isCell]) [hRs, takeMarks, resA, resAll, resOne, Value.cells, pe122, h2, h7, h10, g2, g7, g10, hm, Sec.cells]
    exact hQ _ _ (by simp) (But.of_ext (Ext'.refl _)) (by rw [g7]; simp [hm])
theorem f122_ok {S : Sec} {X2 X7 X10 : Nat} {wc ws sc ss lo hi : Int} {ro : Bool} (h2 : tget T 2 = .pointer (some ⟨X2, 0, none⟩)) (h7 : tget T 7 = .pointer (some ⟨X7, 0, none⟩)) (h10 : tget T 10 = .pointer (some ⟨X10, 0, none⟩))
    (g2 : A.get X2 = some (.cells S.cells ro)) (g7 : A.get X7 = some (.cells [.int .i64 wc, .int .i64 ws, .int .i64 sc, .int .i64 ss] false)) (g10 : A.get X10 = some (.cells [.int .i64 lo, .int .i64 hi] false)) (hg : g ≤ X7)
    (hQ : ∀ T' A', KeepT pk122 T T' → But X7 A A' → A'.get X7 = some (.cells [.int .i64 wc, .int .i64 ws, .int .i64 (if S.toe < lo then wr .i64 (sc - S.wl) else sc), .int .i64 (if S.toe < lo then wr .i64 (ss - S.wl) else ss)] false) → Q .normal ⟨T', D, A'⟩) : W AP KL g rd pf122 ⟨T, D, A⟩ Q := by
  have h7n := Hp.lt_of_get g7
  by_cases hm : S.toe < lo
  · simp (disch := as_aux_lemma => first | omega | simp only [hDs] <;> omega | simp [isCell]) [hRs, takeMarks, resA, resAll, resOne, Value.cells, pf122, h2, h7, h10, g2, g7, g10, hm, Sec.cells]
    refine w157 (by omega) fun A1 e1 => ?_
    have g71 := e1.get g7
    simp (disch := as_aux_lemma => first | omega | simp only [hDs] <;> omega | simp [isCell]) [hRs, takeMarks, resA, resAll, resOne, Value.cells, h7, g71, storeB_cells, setRange]
    exact hQ _ _ (by simp) (But.set h7n e1) (by rw [get_set_same g71]; simp [hm])
  · simp (disch := as_aux_lemma => first | omega | simp only [hDs] <;> omega | simp [isCell]) [hRs, takeMarks, resA, resAll, resOne, Value.cells, pf122, h2, h7, h10, g2, g7, g10, hm, Sec.cells]
    exact hQ _ _ (by simp) (But.of_ext (Ext'.refl _)) (by rw [g7]; simp [hm])
end
end Go.Ab.Dike
namespace Go.Ab.Dike
open Go Go.Ab
section
variable {g : Nat} {rd : Option Nat} {T : List Value} {D : List Nat} {A : Hp} {Q : Ex → St → Prop} {V : Value → Hp → Prop}
theorem holdS_step (S : Sec) (zs : List Int) (k : Nat) : holdS S zs (k + 1) =
    ⟨if S.toe < gi zs (k * 2 + 1) then wr .i64 ((holdS S zs k).wc - S.wh) else (holdS S zs k).wc, if S.toe < gi zs (k * 2 + 1) then wr .i64 ((holdS S zs k).ws - S.wh) else (holdS S zs k).ws,
     if S.toe < gi zs (k * 2) then wr .i64 ((holdS S zs k).sc - S.wl) else (holdS S zs k).sc, if S.toe < gi zs (k * 2) then wr .i64 ((holdS S zs k).ss - S.wl) else (holdS S zs k).ss,
     if (holdS S zs k).may < 0 ∧ min (holdS S zs k).wc (holdS S zs k).ws < gi zs (k * 2 + 1) then k else (holdS S zs k).may,
     if (holdS S zs k).must < 0 ∧ min (holdS S zs k).sc (holdS S zs k).ss < gi zs (k * 2) then k else (holdS S zs k).must⟩ := rfl
theorem body122_eq : body122 = .seq (.ops [oB 45 .lss 44 43]) (.seq (.cond (.t 45) .skip (.exit 1)) (.seq (.block 2 (.seq pa122 (.seq pb122 (.seq pc122 (.seq pd122 (.seq pe122 pf122)))))) (.ops [oC 99 .add 44 1, oM 44 99]))) := rfl
def row6 (a b : Value) (s : HS) : ABlk := .cells [a, b, .int .i64 s.may, .int .i64 s.must] false
def row7 (s : HS) : ABlk := .cells [.int .i64 s.wc, .int .i64 s.ws, .int .i64 s.sc, .int .i64 s.ss] false
theorem loop122 {S : Sec} {A1 : Hp} {X2 X6 X7 N n : Nat} {zs : List Int} {sl : Value} {ro2 : Bool} (hsl : ∀ A : Hp, (∀ z, z < N → z ≠ X6 → z ≠ X7 → A.get z = A1.get z) → RdS A 2 n (ints zs) sl ∧ A.get X2 = some (.cells S.cells ro2)) (hn : n ≤ 1000) (h67 : X6 ≠ X7) (h6N : X6 < N) (h7N : X7 < N) (h26 : X2 ≠ X6) (h27 : X2 ≠ X7) (h2N : X2 < N)
    (hg6 : g ≤ X6) (hg7 : g ≤ X7) (hgN : g ≤ N)
    (hend : ∀ T' A' a b, KeepT [2, 4, 6, 7, 8] T T' → A'.get X6 = some (row6 a b (holdS S zs n)) → A'.get X7 = some (row7 (holdS S zs n)) → AccS N A' 2 (ints (crL S zs n)) a → AccS N A' 2 (ints (stL S zs n)) b → (∀ z, blkOf a = some z → blkOf b ≠ some z) →
      N ≤ A'.n → (∀ z, z < N → z ≠ X6 → z ≠ X7 → A'.get z = A1.get z) → Q (.exit 1) ⟨T', D, A'⟩)
    (t2 : tget T 2 = .pointer (some ⟨X2, 0, none⟩)) (t6 : tget T 6 = .pointer (some ⟨X6, 0, none⟩)) (t7 : tget T 7 = .pointer (some ⟨X7, 0, none⟩)) (t8 : tget T 8 = .func (.func 155) ⟨[]⟩ ⟨[.pointer (some ⟨X6, 0, none⟩), .pointer (some ⟨X7, 0, none⟩)]⟩) :
    ∀ (k i : Nat) {T1 : List Value} {A : Hp} {a b : Value}, i + k = n → KeepT [2, 4, 6, 7, 8] T T1 → tget T1 42 = sl → tget T1 43 = .int .i64 n → tget T1 44 = .int .i64 i → A.get X6 = some (row6 a b (holdS S zs i)) → A.get X7 = some (row7 (holdS S zs i)) →
      AccS N A 2 (ints (crL S zs i)) a → AccS N A 2 (ints (stL S zs i)) b → (∀ z, blkOf a = some z → blkOf b ≠ some z) → N ≤ A.n → (∀ z, z < N → z ≠ X6 → z ≠ X7 → A.get z = A1.get z) → W AP KL g rd (.loop body122) ⟨T1, D, A⟩ Q := by
  intro k
  induction k with
  | zero =>
    intro i T1 A a b hik hk t42 t43 t44 g6 g7 ha hb hab hN hold
    have : i = n := by omega
    subst this
    rw [W_loop]
    simp (disch := as_aux_lemma => first | omega | simp only [hDs] <;> omega | simp [isCell]) [hRs, takeMarks, resA, resAll, resOne, Value.cells, body122, t43, t44]
    exact hend _ A a b (hk.trans (by simp)) g6 g7 ha hb hab hN hold
  | succ k ih =>
    intro i T1 A a b hik hk t42 t43 t44 g6 g7 ha hb hab hN hold
    have u2 : tget T1 2 = _ := (hk.at 2 rfl).trans t2
    have u6 : tget T1 6 = _ := (hk.at 6 rfl).trans t6
    have u7 : tget T1 7 = _ := (hk.at 7 rfl).trans t7
    have u8 : tget T1 8 = _ := (hk.at 8 rfl).trans t8
    obtain ⟨hr, hg2⟩ := hsl A hold
    obtain ⟨x, c, ro, rfl, hx⟩ := hr.at (i := i) (by omega)
    have hzl := hr.1
    rw [ints_length] at hzl
    have h6n := Hp.lt_of_get g6
    have h7n := Hp.lt_of_get g7
    have h2n := Hp.lt_of_get hg2
    obtain ⟨s, hs⟩ : ∃ s, s = holdS S zs i := ⟨_, rfl⟩
    rw [← hs] at g6 g7
    rw [W_loop]
    simp (disch := as_aux_lemma => first | omega | simp only [hDs] <;> omega | simp [isCell]) [hRs, takeMarks, resA, resAll, resOne, Value.cells, body122_eq, t43, t44, show ((i : Int) < n) by omega]
    simp (disch := as_aux_lemma => first | omega | simp only [hDs] <;> omega | simp [isCell]) [hRs, takeMarks, resA, resAll, resOne, Value.cells, pa122, t42, t44, idxSA_ok, hx, ints_two, storeB_cells, setRange, set_push_eq]
    obtain ⟨lo, hlo⟩ : ∃ lo, lo = gi zs (i * 2) := ⟨_, rfl⟩
    obtain ⟨hi, hhi⟩ : ∃ hi, hi = gi zs (i * 2 + 1) := ⟨_, rfl⟩
    rw [← hlo, ← hhi]
    obtain ⟨B, hB⟩ : ∃ B, B = A.push (.cells [.int .i64 lo, .int .i64 hi] false) := ⟨_, rfl⟩
    rw [← hB]
    have hBn : B.n = A.n + 1 := by rw [hB]; rfl
    have hBo : ∀ z, z < A.n → B.get z = A.get z := fun z hz => by rw [hB, get_push_old hz]
    have hB10 : B.get A.n = some (.cells [.int .i64 lo, .int .i64 hi] false) := by rw [hB, get_push_new]
    simp (disch := as_aux_lemma => first | omega | simp only [hDs] <;> omega | simp [isCell]) [hRs, takeMarks, resA, resAll, resOne, Value.cells, pb122, u8]
    refine w155 (N := N) (k := i) (a := a) (b := b) (ca := crL S zs i) (cb := stL S zs i) ((hBo X6 h6n).trans g6) ((hBo X7 h7n).trans g7) (ha.mono hBo) (hb.mono hBo) hab (crL_length S zs i) (stL_length S zs i) (by omega) hg6 hgN h6N h7N h67 (by omega) ?_
    intro C a' b' c6 hac hbc hab' hCn hCo
    simp (disch := as_aux_lemma => first | omega | simp only [hDs] <;> omega | simp [isCell]) [hRs, takeMarks, resA, resAll, resOne, Value.cells]
    have nota : ∀ z, z < N → blkOf a ≠ some z := fun z hz h => by have := (ha.blk_ge h).1; omega
    have notb : ∀ z, z < N → blkOf b ≠ some z := fun z hz h => by have := (hb.blk_ge h).1; omega
    have hC7 : C.get X7 = some (row7 s) := by rw [hCo X7 (by omega) (Ne.symm h67) (nota _ h7N) (notb _ h7N), hBo X7 h7n]; exact g7
    have hC2 : C.get X2 = some (.cells S.cells ro2) := by rw [hCo X2 (by omega) h26 (nota _ h2N) (notb _ h2N), hBo X2 h2n]; exact hg2
    have hC10 : C.get A.n = some (.cells [.int .i64 lo, .int .i64 hi] false) := by
      rw [hCo A.n (by omega) (by omega) (fun h => by have := (ha.blk_ge h).2; omega) (fun h => by have := (hb.blk_ge h).2; omega)]; exact hB10
    have hCN : ∀ z, z < N → z ≠ X6 → C.get z = A.get z := fun z hz hz6 => by rw [hCo z (by omega) hz6 (nota _ hz) (notb _ hz), hBo z (by omega)]
    have hX10 : A.n < C.n := Hp.lt_of_get hC10
    refine c122_ok (X6 := X6) (X7 := X7) (X10 := A.n) (k := i) (lo := lo) (hi := hi) (by simp [u6]) (by simp [u7]) (by simp) (by simp) c6 hC7 hC10 hg6 ?_
    intro T3 A3 k3 b3 g63
    simp only [SeqQ_normal, W_seq]
    refine d122_ok (X6 := X6) (X7 := X7) (X10 := A.n) (k := i) (lo := lo) (hi := hi) (by rw [k3.at 6 rfl]; simp [u6]) (by rw [k3.at 7 rfl]; simp [u7]) (by rw [k3.at 9 rfl]; simp) (by rw [k3.at 10 rfl]; simp) g63 ((b3.2 X7 (by omega) (Ne.symm h67)).trans hC7) ((b3.2 A.n hX10 (by omega)).trans hC10) hg6 ?_
    intro T4 A4 k4 b4 g64
    simp only [SeqQ_normal, W_seq]
    have k34 := k3.trans k4
    have n3 := b3.1
    have n4 := b4.1
    have o4 : ∀ z, z < C.n → z ≠ X6 → A4.get z = C.get z := fun z hz hz6 => (b4.2 z (by omega) hz6).trans (b3.2 z hz hz6)
    refine e122_ok (S := S) (X2 := X2) (X7 := X7) (X10 := A.n) (lo := lo) (hi := hi) (by rw [k34.at 2 rfl]; simp [u2]) (by rw [k34.at 7 rfl]; simp [u7]) (by rw [k34.at 10 rfl]; simp) ((o4 X2 (by omega) h26).trans hC2) ((o4 X7 (by omega) (Ne.symm h67)).trans hC7) ((o4 A.n hX10 (by omega)).trans hC10) hg7 ?_
    intro T5 A5 k5 b5 g75
    simp only [SeqQ_normal]
    have k35 := k34.trans k5
    have n5 := b5.1
    have o5 : ∀ z, z < C.n → z ≠ X6 → z ≠ X7 → A5.get z = C.get z := fun z hz hz6 hz7 => (b5.2 z (by omega) hz7).trans (o4 z hz hz6)
    refine f122_ok (S := S) (X2 := X2) (X7 := X7) (X10 := A.n) (lo := lo) (hi := hi) (by rw [k35.at 2 rfl]; simp [u2]) (by rw [k35.at 7 rfl]; simp [u7]) (by rw [k35.at 10 rfl]; simp) ((o5 X2 (by omega) h26 h27).trans hC2) g75 ((o5 A.n hX10 (by omega) (by omega)).trans hC10) hg7 ?_
    intro T6 A6 k6 b6 g76
    have k36 := k35.trans k6
    have n6 := b6.1
    have o6 : ∀ z, z < C.n → z ≠ X6 → z ≠ X7 → A6.get z = C.get z := fun z hz hz6 hz7 => (b6.2 z (by omega) hz7).trans (o5 z hz hz6 hz7)
    have g66 : A6.get X6 = A4.get X6 := by rw [b6.2 X6 (by omega) h67, b5.2 X6 (by omega) h67]
    have e3 := wrId (n := (i : Int) + 1) (by omega) (by omega)
    have q44 : tget T6 44 = .int .i64 i := by rw [k36.at 44 rfl]; simp [t44]
    simp (disch := as_aux_lemma => first | omega | simp only [hDs] <;> omega | simp [isCell]) [hRs, takeMarks, resA, resAll, resOne, Value.cells, q44, e3]
    have acc : ∀ {cs : List Int} {sv : Value}, AccS N C 2 (ints cs) sv → AccS N A6 2 (ints cs) sv := fun h => AccS.keepB h fun z hz => by
      have := h.blk_ge hz
      exact o6 z this.2 (by omega) (by omega)
    have hst := holdS_step S zs i
    rw [← hs, ← hlo, ← hhi] at hst
    refine ih (i + 1) (a := a') (b := b') (by omega) ?_ (by simp [k36.at 42 rfl, t42]) (by simp [k36.at 43 rfl, t43]) (by simp) ?_ ?_ ?_ ?_ hab' (by omega) ?_
    · refine hk.trans ?_
      simp [k36.at 2 rfl, k36.at 4 rfl, k36.at 6 rfl, k36.at 7 rfl, k36.at 8 rfl]
    · rw [g66, g64, hst]; rfl
    · rw [g76, hst]; rfl
    · have : crL S zs (i + 1) = crL S zs i ++ [s.wc, s.sc] := by rw [hs]; rfl
      rw [this]; exact acc hac
    · have : stL S zs (i + 1) = stL S zs i ++ [s.ws, s.ss] := by rw [hs]; rfl
      rw [this]; exact acc hbc
    · intro z hz hz6 hz7
      rw [o6 z (by omega) hz6 hz7, hCN z hz hz6]
      exact hold z hz hz6 hz7
theorem lvl_val {zs : List Int} {n : Nat} (hl : zs.length = n * 2) : ∀ i, i < n → partA (ints zs) (i * 2) (some 2) = some ((fun i => .agg ⟨[.int .i64 (gi zs (i * 2)), .int .i64 (gi zs (i * 2 + 1))]⟩) i) := fun i hi => ints_two (by omega)
theorem w122 {S : Sec} {n : Nat} {zs : List Int} {sl : Value} (hsl : RdS A 2 n (ints zs) sl) (hn : n < 1000000) (hg : g ≤ A.n) (hV : ∀ v A', Ext' A A' → HoldOut S zs n A.n v A' → V v A') : WF AP KL g 122 [.agg ⟨S.cells⟩, sl] A V := by
  rw [WF_body (show KL 122 = none from rfl) (show AP 122 = some F122 from rfl)]
  have hzl := hsl.1
  rw [ints_length] at hzl
  have hSc : partA S.cells 0 (some 8) = some (.agg ⟨S.cells⟩) := rfl
  simp (disch := as_aux_lemma => first | omega | simp only [hDs] <;> omega | simp [isCell]) [hRs, takeMarks, resA, resAll, resOne, Value.cells, F122, hSc]
  obtain ⟨B, hB⟩ : ∃ B, B = (A.push (.cells S.cells false)).push (.cells [.slice none 0 0, .slice none 0 0, .int .i64 0, .int .i64 0] false) := ⟨_, rfl⟩
  rw [← hB]
  have hBn : B.n = A.n + 2 := by rw [hB]; rfl
  have eB : Ext' A B := by rw [hB]; exact (Ext'.push A _).trans (Ext'.push _ _)
  have b2 : B.get A.n = some (.cells S.cells false) := by rw [hB, get_push_old (by simp), get_push_new]
  have b4 : B.get (A.n + 1) = some (.cells [.slice none 0 0, .slice none 0 0, .int .i64 0, .int .i64 0] false) := by rw [hB, get_push_eq (by simp)]
  refine w152 fun A1 e1 => ?_
  have c4 := e1.get b4
  have bad : ∀ (A2 : Hp) (e : Int), Ext' B A2 → holdE S zs n = e → e ≠ 0 → ∀ {b : ABlk}, b = .cells [.slice none 0 0, .slice none 0 0, .int .i64 0, .int .i64 0] false → V (.tuple ⟨[fateV (.slice none 0 0) (.slice none 0 0) 0 0, .int .i64 e]⟩) (A2.set (A.n + 1) (some b)) := by
    intro A2 e he hh h0 b hb
    have := he.1
    refine hV _ _ ⟨by simp; omega, fun z hz => ?_⟩ (.inl ⟨by rw [hh]; exact h0, by rw [hh]⟩)
    rw [get_set_ne (by omega) (by omega), he.2 z (by omega), eB.2 z hz]
  cases hok : S.ok with
  | false =>
    have he : holdE S zs n = 3 := by simp [holdE, hok]
    have gs := get_set_same (b := some (.cells [.slice none 0 0, .slice none 0 0, .int .i64 0, .int .i64 0] false)) c4
    simp (disch := as_aux_lemma => first | omega | simp only [hDs] <;> omega | simp [isCell]) [hRs, takeMarks, resA, resAll, resOne, Value.cells, hok, fillA, setRange, c4, storeB_cells, gs]
    exact bad A1 3 e1 he (by decide) rfl
  | true =>
    by_cases h1000 : (1000 : Int) < n
    · have he : holdE S zs n = 9 := by simp [holdE, hok, show 1000 < n by omega]
      have gs := get_set_same (b := some (.cells [.slice none 0 0, .slice none 0 0, .int .i64 0, .int .i64 0] false)) c4
      simp (disch := as_aux_lemma => first | omega | simp only [hDs] <;> omega | simp [isCell]) [hRs, takeMarks, resA, resAll, resOne, Value.cells, hok, hsl.len, h1000, fillA, setRange, c4, storeB_cells, gs]
      exact bad A1 9 e1 he (by decide) rfl
    · simp (disch := as_aux_lemma => first | omega | simp only [hDs] <;> omega | simp [isCell]) [hRs, takeMarks, resA, resAll, resOne, Value.cells, hok, hsl.len, h1000]
      have hsl1 := (eB.trans e1).rdS hsl
      refine w56 hsl1 (lvl_val hzl) says153 hn fun A2 e2 => ?_
      have c42 := e2.get c4
      have c22 := e2.get (e1.get b2)
      cases hany : (List.range n).any (fun i => !lvl zs i) with
      | true =>
        have he : holdE S zs n = 3 := by simp only [holdE, hok, hany]; simp [show ¬ 1000 < n by omega]
        have gs := get_set_same (b := some (.cells [.slice none 0 0, .slice none 0 0, .int .i64 0, .int .i64 0] false)) c42
        simp (disch := as_aux_lemma => first | omega | simp only [hDs] <;> omega | simp [isCell]) [hRs, takeMarks, resA, resAll, resOne, Value.cells, fillA, setRange, c42, storeB_cells, gs]
        exact bad A2 3 (e1.trans e2) he (by decide) rfl
      | false =>
        have he : holdE S zs n = 0 := by simp only [holdE, hok, hany]; simp [show ¬ 1000 < n by omega]
        have n1 := e1.1
        have n2 := e2.1
        simp (disch := as_aux_lemma => first | omega | simp only [hDs] <;> omega | simp [isCell]) [hRs, takeMarks, resA, resAll, resOne, Value.cells, fillA, setRange, storeB_cells, set_push_eq, c22, Sec.cells]
        obtain ⟨A3, hA3⟩ : ∃ A3, A3 = (A2.push (.cells [.slice none 0 0, .slice none 0 0, .int .i64 (-1), .int .i64 (-1)] false)).push (.cells [.int .i64 S.cl, .int .i64 S.sl, .int .i64 S.ch, .int .i64 S.sh] false) := ⟨_, rfl⟩
        rw [← hA3]
        have hA3n : A3.n = A2.n + 2 := by rw [hA3]; rfl
        have e3 : Ext' A2 A3 := by rw [hA3]; exact (Ext'.push _ _).trans (Ext'.push _ _)
        have g6 : A3.get A2.n = some (row6 (.slice none 0 0) (.slice none 0 0) (holdS S zs 0)) := by rw [hA3, get_push_old (by simp), get_push_new]; rfl
        have g7 : A3.get (A2.n + 1) = some (row7 (holdS S zs 0)) := by rw [hA3, get_push_eq (by simp)]; rfl
        simp (disch := as_aux_lemma => first | omega | simp only [hDs] <;> omega | simp [isCell]) [hRs, takeMarks, resA, resAll, resOne, Value.cells, hsl.len]
        refine loop122 (S := S) (A1 := A3) (X2 := A.n) (X6 := A2.n) (X7 := A2.n + 1) (N := A2.n + 2) (n := n) (zs := zs) (sl := sl) (ro2 := false) ?_ (by omega) (by omega) (by omega) (by omega) (by omega) (by omega) (by omega) (by omega) (by omega) (by omega) ?_ (T := _) ?_ ?_ ?_ ?_ n 0 (a := .slice none 0 0) (b := .slice none 0 0) (by omega) (fun _ _ => rfl) (by simp) (by simp) (by simp) g6 g7 AccS.nil AccS.nil (fun z h => by cases h) (by omega) (fun z _ _ _ => rfl)
        · intro A' h
          have hA' : ∀ z, z < A2.n → A'.get z = A2.get z := fun z hz => by rw [h z (by omega) (by omega) (by omega), e3.2 z hz]
          exact ⟨((eB.trans (e1.trans e2)).rdS hsl).mono hA', (hA' _ (by omega)).trans c22⟩
        · intro T' A' a b hk q6 q7 hac hbc hab hN ho
          have u8 := hk.at 8 rfl
          have u6 := hk.at 6 rfl
          have u4 := hk.at 4 rfl
          simp at u8 u6 u4
          simp (disch := as_aux_lemma => first | omega | simp only [hDs] <;> omega | simp [isCell]) [hRs, takeMarks, resA, resAll, resOne, Value.cells, u8]
          refine w155 (N := A2.n + 2) (k := n) q6 q7 hac hbc hab (crL_length S zs n) (stL_length S zs n) (by omega) (by omega) (by omega) (by omega) (by omega) (by omega) hN ?_
          intro C a' b' c6 hac' hbc' _ hCn hCo
          have nota : ∀ z, z < A2.n + 2 → blkOf a ≠ some z := fun z hz h => by have := (hac.blk_ge h).1; omega
          have notb : ∀ z, z < A2.n + 2 → blkOf b ≠ some z := fun z hz h => by have := (hbc.blk_ge h).1; omega
          have hC : ∀ z, z < A2.n → C.get z = A2.get z := fun z hz => by rw [hCo z (by omega) (by omega) (nota _ (by omega)) (notb _ (by omega)), ho z (by omega) (by omega) (by omega), e3.2 z hz]
          have c44 : C.get (A.n + 1) = _ := (hC _ (by omega)).trans c42
          have gs : ∀ b', (C.set (A.n + 1) (some b')).get (A.n + 1) = some b' := fun b' => get_set_same c44
          obtain ⟨pa, na, ca, rfl⟩ := hac'.isSlice
          obtain ⟨pb, nb, cb, rfl⟩ := hbc'.isSlice
          simp (disch := as_aux_lemma => first | omega | simp only [hDs] <;> omega | simp [isCell]) [hRs, takeMarks, resA, resAll, resOne, Value.cells, u6, u4, c6, c44, storeB_cells, gs, setRange]
          refine hV _ _ ⟨by simp; omega, fun z hz => ?_⟩ (.inr ⟨he, _, _, rfl, ?_, ?_⟩)
          · rw [get_set_ne (by omega) (by omega), hC z (by omega), e2.2 z (by omega), e1.2 z (by omega), eB.2 z hz]
          · refine (AccS.keepB hac' fun z hz => get_set_ne (by omega) ?_).weaken (by omega)
            have := (hac'.blk_ge hz).1; omega
          · refine (AccS.keepB hbc' fun z hz => get_set_ne (by omega) ?_).weaken (by omega)
            have := (hbc'.blk_ge hz).1; omega
        · simp
        · simp
        · simp
        · simp
end
end Go.Ab.Dike
namespace Go.Ab.Dike
open Go Go.Ab
section
variable {g : Nat} {rd : Option Nat} {T : List Value} {D : List Nat} {A : Hp} {Q : Ex → St → Prop} {V : Value → Hp → Prop}
end
end Go.Ab.Dike
namespace Go.Ab.Dike
open Go Go.Ab
@[simp] theorem _root_.Go.Ab.GuardW_undef {AP : Nat → Option AFunc} {K : Nat → Option Spec} {g : Nat} {A : Hp} {T : List Value} {R : List Value → Hp → Prop} {dst : Option Nat} {op : AOp} {l : List AOper} {b : Bool} : GuardW AP K g dst op l T A R b undef = WO AP K g l (putA dst T undef) A R := rfl
section
variable {g : Nat} {rd : Option Nat} {T : List Value} {D : List Nat} {A : Hp} {Q : Ex → St → Prop} {V : Value → Hp → Prop}
def But2 (x y : Nat) (A A' : Hp) : Prop := A.n ≤ A'.n ∧ ∀ z, z < A.n → z ≠ x → z ≠ y → A'.get z = A.get z
end
end Go.Ab.Dike
namespace Go.Ab.Dike
open Go Go.Ab
def firstE (f : Nat → Int) : Nat → Int
  | 0 => 0
  | k + 1 => if firstE f k = 0 then f k else firstE f k
theorem firstE_stays {f : Nat → Int} {i : Nat} {e : Int} (h : firstE f i = e) (he : e ≠ 0) : ∀ d, firstE f (i + d) = e
  | 0 => h
  | d + 1 => by
    have := firstE_stays h he d
    show (if firstE f (i + d) = 0 then f (i + d) else firstE f (i + d)) = e
    rw [this, if_neg he]
theorem firstE_at {f : Nat → Int} {i n : Nat} {e : Int} (h0 : firstE f i = 0) (hi : i < n) (he : f i = e) (hne : e ≠ 0) : firstE f n = e := by
  have h1 : firstE f (i + 1) = e := by show (if firstE f i = 0 then f i else firstE f i) = e; rw [if_pos h0]; exact he
  obtain ⟨d, rfl⟩ : ∃ d, n = i + 1 + d := ⟨n - (i + 1), by omega⟩
  exact firstE_stays h1 hne d
theorem firstE_next {f : Nat → Int} {i : Nat} (h0 : firstE f i = 0) (he : f i = 0) : firstE f (i + 1) = 0 := by
  show (if firstE f i = 0 then f i else firstE f i) = 0; rw [if_pos h0]; exact he
def secA (ss : List Int) (i : Nat) : Sec := ⟨gi ss (i * 8), gi ss (i * 8 + 1), gi ss (i * 8 + 2), gi ss (i * 8 + 3), gi ss (i * 8 + 4), gi ss (i * 8 + 5), gi ss (i * 8 + 6), gi ss (i * 8 + 7)⟩
theorem sec_part {ss : List Int} {i : Nat} (h : i * 8 + 8 ≤ ss.length) : partA (ints ss) (i * 8) (some 8) = some (.agg ⟨(secA ss i).cells⟩) := ints_8 h
def metL (ss : List Int) : Nat → List Int
  | 0 => []
  | k + 1 => metL ss k ++ [gi ss (k * 8)]
theorem mem_metL {ss : List Int} {c : Int} : ∀ {k : Nat}, c ∈ metL ss k ↔ ∃ j, j < k ∧ gi ss (j * 8) = c
  | 0 => by simp [metL]
  | k + 1 => by
    simp only [metL, List.mem_append, mem_metL (k := k), List.mem_singleton]
    constructor
    · rintro (⟨j, h1, h2⟩ | h)
      · exact ⟨j, by omega, h2⟩
      · exact ⟨k, by omega, h.symm⟩
    · rintro ⟨j, h1, h2⟩
      rcases Nat.lt_or_ge j k with h | h
      · exact .inl ⟨j, h, h2⟩
      · have : j = k := by omega
        subst this; exact .inr h2.symm
def metM (cs : List Int) : List (Value × Value) := cs.map fun c => (.int .i64 c, .bool true)
theorem find_met (c : Int) : ∀ cs : List Int, findM (.int .i64 c) (metM cs) = some (if c ∈ cs then some (.bool true) else none)
  | [] => by simp [metM, findM]
  | x :: cs => by
    have ih := find_met c cs
    simp only [metM, List.map_cons, findM, keyEq] at ih ⊢
    by_cases h : c = x
    · subst h; simp [kEq]
    · have e : (c == x) = false := by simpa using h
      simp only [kEq, if_true, e, ih]
      simp [h]
theorem set_met {c : Int} : ∀ {cs : List Int}, c ∉ cs → setM (.int .i64 c) (.bool true) (metM cs) = some (metM (cs ++ [c]))
  | [], _ => rfl
  | x :: cs, h => by
    have h1 : ¬ c = x := fun e => h (by simp [e])
    have ih := set_met (c := c) (cs := cs) fun e => h (List.mem_cons_of_mem _ e)
    have e : (c == x) = false := by simpa using h1
    simp only [metM, List.map_cons, setM, keyEq, kEq, if_true, e] at ih ⊢
    rw [ih]
    rfl
def stepE (m : Nat) (ss : List Int) (i : Nat) : Int :=
  if gi ss (i * 8) < 0 ∨ (m : Int) ≤ gi ss (i * 8) then 4 else if gi ss (i * 8) ∈ metL ss i then 5 else if (secA ss i).ok = false then 3 else 0
def checkE (w h s : Int) (m : Nat) (zs : List Int) (n : Nat) (ss : List Int) : Int := if gridE w h s m zs ≠ 0 then gridE w h s m zs else if 256 < n then 9 else firstE (stepE m ss) n
section
variable {g : Nat} {rd : Option Nat} {T : List Value} {D : List Nat} {A : Hp} {Q : Ex → St → Prop} {V : Value → Hp → Prop}
theorem loop128 {A0 : Hp} {X2 X6 m n : Nat} {zs ss : List Int} {sl gr w h s : Value} (hsl : RdS A0 8 n (ints ss) sl) (hgr : RdS A0 2 m (ints zs) gr) (hn : n < 1000000) (h2 : A0.get X2 = some (.cells [w, h, s, gr] false)) (hX6 : A0.n ≤ X6) (hg : g ≤ A0.n)
    (herr : ∀ T' A' e, firstE (stepE m ss) n = e → e ≠ 0 → Ext' A0 A' → tget T' 4 = .int .i64 e → Q .ret ⟨T', D, A'⟩)
    (hend : ∀ T' A', firstE (stepE m ss) n = 0 → Ext' A0 A' → Q (.exit 0) ⟨T', D, A'⟩) :
    ∀ (k i : Nat) {T1 : List Value} {A : Hp}, i + k = n → firstE (stepE m ss) i = 0 → Ext' A0 A → A.get X6 = some (.map (metM (metL ss i)) none) → tget T1 2 = .pointer (some ⟨X2, 0, none⟩) → tget T1 6 = .map (some X6) → tget T1 18 = sl → tget T1 19 = .int .i64 n → tget T1 20 = .int .i64 i →
      W AP KL g rd (.loop body128) ⟨T1, D, A⟩ Q := by
  have hzl := hsl.1
  rw [ints_length] at hzl
  intro k
  induction k with
  | zero =>
    intro i T1 A hik hok he h6 t2 t6 t18 t19 t20
    have : i = n := by omega
    subst this
    rw [W_loop]
    simp (disch := as_aux_lemma => first | omega | simp only [hDs] <;> omega | simp [isCell]) [hRs, takeMarks, resA, resAll, resOne, Value.cells, body128, t19, t20]
    exact hend _ A hok he
  | succ k ih =>
    intro i T1 A hik hok he h6 t2 t6 t18 t19 t20
    obtain ⟨x, c, ro, rfl, hx⟩ := (he.rdS hsl).at (i := i) (by omega)
    have hp := sec_part (ss := ss) (i := i) (by omega)
    have hgA := Nat.le_trans hg he.1
    have h6n := Hp.lt_of_get h6
    have h2A := he.get h2
    have h2n := Hp.lt_of_get h2
    have eP := he.trans (Ext'.push A (.cells (secA ss i).cells false))
    have hstep : stepE m ss i = if gi ss (i * 8) < 0 ∨ (m : Int) ≤ gi ss (i * 8) then 4 else if gi ss (i * 8) ∈ metL ss i then 5 else if (secA ss i).ok = false then 3 else 0 := rfl
    have hlen := (he.rdS hgr).len
    rw [W_loop]
    by_cases c1 : gi ss (i * 8) < 0
    · simp (disch := as_aux_lemma => first | omega | simp only [hDs] <;> omega | simp [isCell]) [hRs, takeMarks, resA, resAll, resOne, Value.cells, body128, t2, t18, t19, t20, show ((i : Int) < n) by omega, idxSA_ok, hx, hp, storeB_cells, setRange, Sec.cells, secA, set_push_eq, c1]
      exact herr _ _ 4 (firstE_at hok (by omega) (by rw [hstep, if_pos (.inl c1)]) (by decide)) (by decide) eP (by simp)
    · by_cases c2 : (m : Int) ≤ gi ss (i * 8)
      · simp (disch := as_aux_lemma => first | omega | simp only [hDs] <;> omega | simp [isCell]) [hRs, takeMarks, resA, resAll, resOne, Value.cells, body128, t2, t18, t19, t20, show ((i : Int) < n) by omega, idxSA_ok, hx, hp, storeB_cells, setRange, Sec.cells, secA, set_push_eq, c1, c2, h2A, hlen]
        exact herr _ _ 4 (firstE_at hok (by omega) (by rw [hstep, if_pos (.inr c2)]) (by decide)) (by decide) eP (by simp)
      · have n1 : ¬ (gi ss (i * 8) < 0 ∨ (m : Int) ≤ gi ss (i * 8)) := by omega
        have c2' : gi ss (i * 8) < m := by omega
        by_cases c3 : gi ss (i * 8) ∈ metL ss i
        · simp (disch := as_aux_lemma => first | omega | simp only [hDs] <;> omega | simp [isCell]) [hRs, takeMarks, resA, resAll, resOne, Value.cells, body128, t2, t6, t18, t19, t20, show ((i : Int) < n) by omega, idxSA_ok, hx, hp, storeB_cells, setRange, Sec.cells, secA, set_push_eq, c1, c2, h2A, hlen, lookupA, mapOf, h6, keyFits, find_met, c3]
          exact herr _ _ 5 (firstE_at hok (by omega) (by rw [hstep, if_neg n1, if_pos c3]) (by decide)) (by decide) eP (by simp)
        · simp (disch := as_aux_lemma => first | omega | simp only [hDs] <;> omega | simp [isCell]) [hRs, takeMarks, resA, resAll, resOne, Value.cells, body128, t2, t6, t18, t19, t20, show ((i : Int) < n) by omega, idxSA_ok, hx, hp, storeB_cells, setRange, Sec.cells, secA, set_push_eq, c1, c2, h2A, hlen, lookupA, mapOf, h6, keyFits, find_met, c3]
          refine w152 (S := secA ss i) fun A1 e1 => ?_
          have hn1 := e1.1
          cases c4 : (secA ss i).ok with
          | false =>
            simp (disch := as_aux_lemma => first | omega | simp only [hDs] <;> omega | simp [isCell]) [hRs, takeMarks, resA, resAll, resOne, Value.cells]
            exact herr _ _ 3 (firstE_at hok (by omega) (by rw [hstep, if_neg n1, if_neg c3, if_pos c4]) (by decide)) (by decide) (eP.trans e1) (by simp)
          | true =>
            have g6 := e1.get ((get_push_old h6n).trans h6)
            have g8 := e1.get (get_push_new (A := A) (b := (.cells (secA ss i).cells false)))
            have h6g : g ≤ X6 := by omega
            simp (disch := as_aux_lemma => first | omega | simp only [hDs] <;> omega | simp [isCell]) [hRs, takeMarks, resA, resAll, resOne, Value.cells, t6, t20, g8, Sec.cells, secA, mapSetA, g6, keyFits, set_met c3, h6g, storeV]
            refine ih (i + 1) (by omega) (firstE_next hok (by rw [hstep, if_neg n1, if_neg c3, c4]; rfl)) ?_ (get_set_same g6) (by simp [t2]) (by simp [t6]) (by simp [t18]) (by simp [t19]) (by simp [wrId (n := (i : Int) + 1) (by omega) (by omega)])
            exact ⟨by have := (eP.trans e1).1; simpa using this, fun z hz => by rw [get_set_ne (Hp.lt_of_get g6) (by omega)]; exact (eP.trans e1).2 z hz⟩
theorem w128 {w h s : Int} {m n : Nat} {zs ss : List Int} {gr sl : Value} (hgr : RdS A 2 m (ints zs) gr) (hm : m < 1000000) (hsl : RdS A 8 n (ints ss) sl) (hn : n < 1000000) (hg : g ≤ A.n) (hV : ∀ A', Ext' A A' → V (.int .i64 (checkE w h s m zs n ss)) A') : WF AP KL g 128 [gridV w h s gr, sl] A V := by
  rw [WF_body (show KL 128 = none from rfl) (show AP 128 = some F128 from rfl)]
  have eB := Ext'.push A (.cells [.int .i64 w, .int .i64 h, .int .i64 s, gr] false)
  obtain ⟨B, hB⟩ : ∃ B, B = A.push (.cells [.int .i64 w, .int .i64 h, .int .i64 s, gr] false) := ⟨_, rfl⟩
  have hBn : B.n = A.n + 1 := by rw [hB]; rfl
  have hX : B.get A.n = some (.cells [.int .i64 w, .int .i64 h, .int .i64 s, gr] false) := by rw [hB, get_push_new]
  rw [← hB] at eB
  simp (disch := as_aux_lemma => first | omega | simp only [hDs] <;> omega | simp [isCell]) [hRs, takeMarks, resA, resAll, resOne, Value.cells, F128, gridV, ← hB, hX]
  refine w37 (eB.rdS hgr) hm fun A1 e1 => ?_
  have hn1 := e1.1
  have hX1 := e1.get hX
  by_cases c1 : gridE w h s m zs = 0
  · by_cases c2 : (256 : Int) < n
    · have : checkE w h s m zs n ss = 9 := by rw [checkE, if_neg (by rw [c1]; simp), if_pos (by omega)]
      simp (disch := as_aux_lemma => first | omega | simp only [hDs] <;> omega | simp [isCell]) [hRs, takeMarks, resA, resAll, resOne, Value.cells, c1, hsl.len, c2]
      rw [← this]; exact hV _ (eB.trans e1)
    · have hE : checkE w h s m zs n ss = firstE (stepE m ss) n := by rw [checkE, if_neg (by rw [c1]; simp), if_neg (by omega)]
      simp (disch := as_aux_lemma => first | omega | simp only [hDs] <;> omega | simp [isCell]) [hRs, takeMarks, resA, resAll, resOne, Value.cells, c1, hsl.len, c2]
      have e2 := Ext'.push A1 (.map [] none)
      refine loop128 (A0 := A1) (X2 := A.n) (X6 := A1.n) (m := m) (n := n) (zs := zs) (ss := ss) (sl := sl) ((eB.trans e1).rdS hsl) ((eB.trans e1).rdS hgr) hn hX1 (Nat.le_refl _) (by omega) ?_ ?_ n 0 (by omega) rfl e2 (by rw [get_push_new]; rfl) (by simp) (by simp) (by simp) (by simp) (by simp)
      · intro T' A' e he hne ee t4
        simp (disch := as_aux_lemma => first | omega | simp only [hDs] <;> omega | simp [isCell]) [hRs, takeMarks, resA, resAll, resOne, Value.cells, t4]
        rw [← he, ← hE]; exact hV _ (eB.trans (e1.trans ee))
      · intro T' A' he ee
        simp (disch := as_aux_lemma => first | omega | simp only [hDs] <;> omega | simp [isCell]) [hRs, takeMarks, resA, resAll, resOne, Value.cells]
        rw [← he, ← hE]; exact hV _ (eB.trans (e1.trans ee))
  · have : checkE w h s m zs n ss = gridE w h s m zs := by rw [checkE, if_pos c1]
    simp (disch := as_aux_lemma => first | omega | simp only [hDs] <;> omega | simp [isCell]) [hRs, takeMarks, resA, resAll, resOne, Value.cells, c1]
    rw [← this]; exact hV _ (eB.trans e1)
end
end Go.Ab.Dike
namespace Go.Ab.Dike
open Go Go.Ab
theorem part4 {cs : List Value} {o : Nat} {a b c d : Value} (h0 : cellAt cs o = some a) (h1 : cellAt cs (o + 1) = some b) (h2 : cellAt cs (o + 2) = some c) (h3 : cellAt cs (o + 3) = some d) : partA cs o (some 4) = some (.agg ⟨[a, b, c, d]⟩) := by
  have l3 := (List.getElem?_eq_some_iff.1 (show cs[o + 3]? = some d from h3)).1
  rw [partA_some (by omega)]
  congr 3
  apply List.ext_getElem?
  intro i
  rw [List.getElem?_take]
  by_cases hi : i < 4
  · rw [if_pos hi, List.getElem?_drop]
    have : i = 0 ∨ i = 1 ∨ i = 2 ∨ i = 3 := by omega
    rcases this with rfl | rfl | rfl | rfl
    · exact h0
    · exact h1
    · exact h2
    · exact h3
  · rw [if_neg hi]
    exact (List.getElem?_eq_none (by simp; omega)).symm
structure FT where
  cn : Nat
  cz : List Int
  sn : Nat
  sz : List Int
  may : Int
  must : Int
def FateAt (A : Hp) (cells : List Value) (i : Nat) (f : FT) : Prop :=
  ∃ a b, partA cells (i * 4) (some 4) = some (fateV a b f.may f.must) ∧ cellAt cells (i * 4) = some a ∧ cellAt cells (i * 4 + 1) = some b ∧ cellAt cells (i * 4 + 2) = some (.int .i64 f.may) ∧ cellAt cells (i * 4 + 3) = some (.int .i64 f.must) ∧ RdS A 2 f.cn (ints f.cz) a ∧ RdS A 2 f.sn (ints f.sz) b
def Fates (A : Hp) (n : Nat) (F : Nat → FT) (sl : Value) : Prop := ∃ cells, RdS A 4 n cells sl ∧ ∀ i, i < n → FateAt A cells i (F i)
theorem FateAt.mono {A A' : Hp} {cells : List Value} {i : Nat} {f : FT} (h : FateAt A cells i f) (hA : ∀ z, z < A.n → A'.get z = A.get z) : FateAt A' cells i f := by
  obtain ⟨a, b, h1, h2, h3, h4, h5, h6, h7⟩ := h
  exact ⟨a, b, h1, h2, h3, h4, h5, h6.mono hA, h7.mono hA⟩
theorem Fates.mono {A A' : Hp} {n : Nat} {F : Nat → FT} {sl : Value} (h : Fates A n F sl) (hA : ∀ z, z < A.n → A'.get z = A.get z) : Fates A' n F sl := by
  obtain ⟨cells, h1, h2⟩ := h
  exact ⟨cells, h1.mono hA, fun i hi => (h2 i hi).mono hA⟩
theorem Fates.ext {A A' : Hp} {n : Nat} {F : Nat → FT} {sl : Value} (h : Fates A n F sl) (he : Ext' A A') : Fates A' n F sl := h.mono he.2
theorem Fates.len {A : Hp} {n : Nat} {F : Nat → FT} {sl : Value} (h : Fates A n F sl) : lenV sl = some (.int .i64 n) := by obtain ⟨_, h1, _⟩ := h; exact h1.len
theorem Fates.at {A : Hp} {n i : Nat} {F : Nat → FT} {sl : Value} (h : Fates A n F sl) (hi : i < n) : ∃ x c ro cells, sl = .slice (some ⟨x, 0, some 4⟩) n c ∧ A.get x = some (.cells cells ro) ∧ FateAt A cells i (F i) := by
  obtain ⟨cells, h1, h2⟩ := h
  obtain ⟨x, c, ro, h3, h4⟩ := h1.at hi
  exact ⟨x, c, ro, cells, h3, h4, h2 i hi⟩
theorem _root_.Go.Ab.RdS.isSlice {A : Hp} {k n : Nat} {cs : List Value} {sv : Value} (h : RdS A k n cs sv) : ∃ p c, sv = .slice p n c := by
  rcases h with ⟨_, ⟨rfl, rfl⟩ | ⟨b, c, ro, rfl, _⟩⟩
  · exact ⟨_, _, rfl⟩
  · exact ⟨_, _, rfl⟩
theorem But.trans {x : Nat} {A B C : Hp} (h : But x A B) (h' : But x B C) : But x A C := ⟨Nat.le_trans h.1 h'.1, fun z hz hx => (h'.2 z (Nat.lt_of_lt_of_le hz h.1) hx).trans (h.2 z hz hx)⟩
def fateE (F : Nat → FT) (step : Int) (i : Nat) : Int := if ((F i).cn : Int) ≤ step then 11 else if validB (gi (F i).cz (step.toNat * 2)) (gi (F i).cz (step.toNat * 2 + 1)) (-1200000) 1200000 = false then 3 else 0
theorem fateE_a {F : Nat → FT} {step : Int} {i : Nat} (h : ((F i).cn : Int) ≤ step) : fateE F step i = 11 := if_pos h
theorem fateE_b {F : Nat → FT} {step : Int} {i : Nat} (h : ¬ ((F i).cn : Int) ≤ step) (h2 : validB (gi (F i).cz (step.toNat * 2)) (gi (F i).cz (step.toNat * 2 + 1)) (-1200000) 1200000 = false) : fateE F step i = 3 := by rw [fateE, if_neg h, if_pos h2]
theorem fateE_c {F : Nat → FT} {step : Int} {i : Nat} (h : ¬ ((F i).cn : Int) ≤ step) (h2 : validB (gi (F i).cz (step.toNat * 2)) (gi (F i).cz (step.toNat * 2 + 1)) (-1200000) 1200000 = true) : fateE F step i = 0 := by rw [fateE, if_neg h, h2]; rfl
theorem fateE_len {F : Nat → FT} {step : Int} {i : Nat} (h : fateE F step i = 0) : ¬ ((F i).cn : Int) ≤ step := fun h' => by rw [fateE_a h'] at h; cases h
theorem firstE_all {f : Nat → Int} : ∀ {n : Nat}, firstE f n = 0 → ∀ i, i < n → f i = 0
  | n + 1, h, i, hi => by
    have h0 : firstE f n = 0 := by
      rcases Decidable.em (firstE f n = 0) with h' | h'
      · exact h'
      · have := firstE_stays (rfl : firstE f n = firstE f n) h' 1
        rw [h] at this; exact absurd this.symm h'
    rcases Nat.lt_or_ge i n with h' | h'
    · exact firstE_all h0 i h'
    · have : i = n := by omega
      subst this
      have : firstE f (i + 1) = if firstE f i = 0 then f i else firstE f i := rfl
      rw [h0, if_pos rfl, h] at this; exact this.symm
section
variable {g : Nat} {rd : Option Nat} {T : List Value} {D : List Nat} {A : Hp} {Q : Ex → St → Prop} {V : Value → Hp → Prop}
def zGrid : ABlk := .cells [.int .i64 0, .int .i64 0, .int .i64 0, .slice none 0 0] false
theorem loop126a {A0 : Hp} {X8 n : Nat} {F : Nat → FT} {st : Nat} {fl : Value} (hfl : Fates A0 n F fl) (hn : n < 1000000) (h8 : A0.get X8 = some zGrid) (hg : g ≤ X8)
    (herr : ∀ T' A' e, firstE (fateE F st) n = e → e ≠ 0 → But X8 A0 A' → A'.get X8 = some zGrid → tget T' 8 = .pointer (some ⟨X8, 0, none⟩) → tget T' 9 = .int .i64 e → Q .ret ⟨T', D, A'⟩)
    (hend : ∀ T' A', firstE (fateE F st) n = 0 → Ext' A0 A' → KeepT [1, 2, 3, 4, 8] T T' → Q (.exit 1) ⟨T', D, A'⟩) (t3 : tget T 3 = .int .i64 st) (t8 : tget T 8 = .pointer (some ⟨X8, 0, none⟩)) :
    ∀ (k i : Nat) {T1 : List Value} {A : Hp}, i + k = n → firstE (fateE F st) i = 0 → Ext' A0 A → KeepT [1, 2, 3, 4, 8] T T1 → tget T1 37 = fl → tget T1 38 = .int .i64 n → tget T1 39 = .int .i64 i → W AP KL g rd (.loop body126a) ⟨T1, D, A⟩ Q := by
  intro k
  induction k with
  | zero =>
    intro i T1 A hik hok he hk t37 t38 t39
    have : i = n := by omega
    subst this
    rw [W_loop]
    simp (disch := as_aux_lemma => first | omega | simp only [hDs] <;> omega | simp [isCell]) [hRs, takeMarks, resA, resAll, resOne, Value.cells, body126a, t38, t39]
    exact hend _ A hok he (hk.trans (by simp))
  | succ k ih =>
    intro i T1 A hik hok he hk t37 t38 t39
    obtain ⟨x, c, ro, cells, rfl, hx, a, b, p1, p2, p3, p4, p5, ra, rb⟩ := (hfl.ext he).at (i := i) (by omega)
    have u3 := (hk.at 3 rfl).trans t3
    have u8 := (hk.at 8 rfl).trans t8
    have g8 := he.get h8
    have h8n := Hp.lt_of_get h8
    have hA0 := he.1
    obtain ⟨pa, ca, rfl⟩ := ra.isSlice
    obtain ⟨pb, cb, rfl⟩ := rb.isSlice
    have hzl := ra.1
    rw [ints_length] at hzl
    rw [W_loop]
    by_cases c1 : ((F i).cn : Int) ≤ st
    · simp (disch := as_aux_lemma => first | omega | simp only [hDs] <;> omega | simp [isCell]) [hRs, takeMarks, resA, resAll, resOne, Value.cells, body126a, u3, u8, t37, t38, t39, show ((i : Int) < n) by omega, idxSA_ok, hx, p1, fateV, storeB_cells, setRange, ra.len, c1, fillA, g8, zGrid]
      refine herr _ _ 11 (firstE_at hok (by omega) (fateE_a c1) (by decide)) (by decide) (But.trans (But.of_ext he) ⟨by simp, fun z hz hz8 => by rw [get_push_old (by simpa using hz), get_set_ne (by omega) hz8]⟩) ?_ (by simp [u8]) (by simp)
      rw [get_push_old (by simp; omega), get_set_same g8]; rfl
    · obtain ⟨y, c', ro', hy0, hy⟩ := ra.at (i := st) (by omega)
      cases hy0
      have hyn := Hp.lt_of_get hy
      simp (disch := as_aux_lemma => first | omega | simp only [hDs] <;> omega | simp [isCell]) [hRs, takeMarks, resA, resAll, resOne, Value.cells, body126a, u3, u8, t37, t38, t39, show ((i : Int) < n) by omega, idxSA_ok, hx, p1, fateV, storeB_cells, setRange, ra.len, c1, hy, ints_two]
      refine w160 fun A1 n1 o1 => ?_
      have e1 := (Ext'.push A (.cells [.slice (some ⟨y, 0, some 2⟩) (F i).cn ca, .slice pb (F i).sn cb, .int .i64 (F i).may, .int .i64 (F i).must] false)).trans (show Ext' _ A1 from ⟨by omega, o1⟩)
      have g81 := e1.get g8
      cases c2 : validB (gi (F i).cz (st * 2)) (gi (F i).cz (st * 2 + 1)) (-1200000) 1200000 with
      | false =>
        simp (disch := as_aux_lemma => first | omega | simp only [hDs] <;> omega | simp [isCell]) [hRs, takeMarks, resA, resAll, resOne, Value.cells, u8, fillA, g81, zGrid, storeB_cells, setRange]
        exact herr _ _ 3 (firstE_at hok (by omega) (fateE_b c1 (by simpa using c2)) (by decide)) (by decide) (But.trans (But.of_ext he) (But.set (by omega) e1)) (get_set_same g81) (by simp [u8]) (by simp)
      | true =>
        simp (disch := as_aux_lemma => first | omega | simp only [hDs] <;> omega | simp [isCell]) [hRs, takeMarks, resA, resAll, resOne, Value.cells, t39]
        exact ih (i + 1) (by omega) (firstE_next hok (fateE_c c1 (by simpa using c2))) (he.trans e1) (hk.trans (by simp)) (by simp [t37]) (by simp [t38]) (by simp [wrId (n := (i : Int) + 1) (by omega) (by omega)])
end
end Go.Ab.Dike
namespace Go.Ab.Dike
open Go Go.Ab
theorem flat_get {k : Nat} {f : Nat → List Value} : ∀ {n : Nat}, (∀ q, q < n → (f q).length = k) → ∀ {q r : Nat}, q < n → r < k → ((List.range n).flatMap f)[q * k + r]? = (f q)[r]?
  | 0, _, q, r, hq, _ => absurd hq (by omega)
  | n + 1, hf, q, r, hq, hr => by
    have hl := flat_len (n := n) fun q hq => hf q (by omega)
    rw [List.range_succ, List.flatMap_append]
    by_cases h : q < n
    · have : q * k + r < n * k := by
        have := Nat.mul_le_mul_right k (show q + 1 ≤ n from h)
        rw [Nat.succ_mul] at this; omega
      rw [List.getElem?_append_left (by rw [hl]; exact this)]
      exact flat_get (fun q hq => hf q (by omega)) h hr
    · have : q = n := by omega
      subst this
      rw [List.getElem?_append_right (by rw [hl]; omega), hl]
      simp
instance : Inhabited FT := ⟨⟨0, [], 0, [], 0, 0⟩⟩
theorem Fates.more {rows rows' : List (List Value)} {n : Nat} {F : Nat → FT} {sl : Value} (h : Fates (roHp rows) n F sl) (hm : More rows rows') : Fates (roHp rows') n F sl := by
  obtain ⟨cells, h1, h2⟩ := h
  refine ⟨cells, h1.more hm, fun i hi => ?_⟩
  obtain ⟨a, b, p1, p2, p3, p4, p5, ra, rb⟩ := h2 i hi
  exact ⟨a, b, p1, p2, p3, p4, p5, ra.more hm, rb.more hm⟩
end Go.Ab.Dike
namespace Go.Ab.Dike
open Go Go.Ab
theorem gi_setI {l : List Int} {i j : Nat} {v : Int} (hi : i < l.length) : gi (l.set i v) j = if j = i then v else gi l j := by
  unfold gi
  simp only [List.getD_eq_getElem?_getD, List.getElem?_set]
  by_cases h : i = j
  · subst h; simp [hi]
  · simp [h, Ne.symm h]
theorem setRange_intsI {vs : List Int} {d : Nat} {v : Int} (h : d < vs.length) : setRange (ints vs) d [.int .i64 v] = ints (vs.set d v) := by
  unfold setRange ints
  apply List.ext_getElem?
  intro i
  rw [List.map_set]
  have e : (vs.map (Value.int .i64)).take d ++ [Value.int .i64 v] ++ (vs.map (Value.int .i64)).drop (d + 1) = (vs.map (Value.int .i64)).set d (.int .i64 v) := by
    rw [List.set_eq_take_append_cons_drop, if_pos (by simpa using h)]; simp
  simpa using congrArg (fun l => l[i]?) e
def FT.whole (f : FT) (st : Nat) : Bool := decide (f.may = -1) || decide ((st : Int) ≤ f.may)
def FT.gone (f : FT) (st : Nat) : Bool := decide (0 ≤ f.must) && decide (f.must < st)
def lift1 (L : List Int) (c : Nat) (w : Bool) (lo : Int) : List Int := if w then L.set (c * 2) (max (gi L (c * 2)) lo) else L
def lift2 (L : List Int) (c : Nat) (w gone : Bool) (hi : Int) : List Int := if w || !gone then L.set (c * 2 + 1) (max (gi L (c * 2 + 1)) hi) else L
theorem lift1_length {L : List Int} {c : Nat} {w : Bool} {lo : Int} : (lift1 L c w lo).length = L.length := by unfold lift1; split <;> simp
theorem lift2_length {L : List Int} {c : Nat} {w gone : Bool} {hi : Int} : (lift2 L c w gone hi).length = L.length := by unfold lift2; split <;> simp
def pA126 : ACode := (.ops [
oM 68 66,
oI 69 64 66 8,
oD 70 69 8,
oP 14 (.alloc [.int .i64 0, .int .i64 0, .int .i64 0, .int .i64 0, .int .i64 0, .int .i64 0, .int .i64 0, .int .i64 0]),
oM 13 68,
oT 14 70 8])
def pB126 : ACode := (.ops [
oF 71 4 3,
oL 72 71,
oF 73 14 0,
oL 74 73,
oI 75 72 74 2,
oM 76 2,
oM 77 13,
oI 78 76 77 4,
oF 79 78 0,
oL 80 79,
oM 81 3,
oI 82 80 81 2,
oD 83 82 2,
oP 16 (.alloc [.int .i64 0, .int .i64 0]),
oM 15 75,
oT 16 83 2])
def pC126 : ACode := (.ops [
oM 84 2,
oM 85 13,
oI 86 84 85 4,
oF 87 86 2,
oL 88 87,
oC 89 .eql 88 (-1),
oM 90 89,
oN 91 90 false 2,
oN 92 90 false 13,
oQ 93 90 false (.idxS (.t 91) (.t 92) 4),
oQ 94 90 false (.fieldAddr (.t 93) 2),
oQ 95 90 false (.load (.t 94) none),
oN 96 90 false 3,
oQ 97 90 false (.bin .geq (.t 95) (.t 96)),
oP 98 (.pick (.t 90) (.k (.bool true)) (.t 97)),
oM 17 98])
def pD126 : ACode := (.seq
 (.ops [
oM 99 17])
 (.cond (.t 99)
 (.ops [
oM 100 15,
oM 101 15,
oP 102 (.nilCheck (.t 101)),
oF 103 102 0,
oL 104 103,
oF 105 16 0,
oL 106 105,
oP 107 (.max [.t 104, .t 106]),
oP 108 (.nilCheck (.t 100)),
oF 109 108 0,
oT 109 107 1])
 .skip))
def pE126 : ACode := (.ops [
oM 110 2,
oM 111 13,
oI 112 110 111 4,
oF 113 112 3,
oL 114 113,
oC 115 .geq 114 0,
oM 116 115,
oN 117 116 true 2,
oN 118 116 true 13,
oQ 119 116 true (.idxS (.t 117) (.t 118) 4),
oQ 120 116 true (.fieldAddr (.t 119) 3),
oQ 121 116 true (.load (.t 120) none),
oN 122 116 true 3,
oQ 123 116 true (.bin .lss (.t 121) (.t 122)),
oP 124 (.pick (.t 116) (.t 123) (.k (.bool false))),
oM 18 124])
def pF126 : ACode := (.seq
 (.ops [
oM 125 17,
oM 126 125,
oN 127 126 false 18,
oQ 128 126 false (.not (.t 127)),
oP 129 (.pick (.t 126) (.k (.bool true)) (.t 128))])
 (.cond (.t 129)
 (.ops [
oM 130 15,
oM 131 15,
oP 132 (.nilCheck (.t 131)),
oF 133 132 1,
oL 134 133,
oF 135 16 1,
oL 136 135,
oP 137 (.max [.t 134, .t 136]),
oP 138 (.nilCheck (.t 130)),
oF 139 138 1,
oT 139 137 1])
 .skip))
section
variable {g : Nat} {rd : Option Nat} {T : List Value} {D : List Nat} {A : Hp} {Q : Ex → St → Prop} {V : Value → Hp → Prop}
theorem C126_ok {f : FT} {x n c i st : Nat} {ro : Bool} {cells : List Value} (hi : i < n) (hn : n < 1000000) (t2 : tget T 2 = .slice (some ⟨x, 0, some 4⟩) n c) (t3 : tget T 3 = .int .i64 st) (ti : tget T 13 = .int .i64 i) (hx : A.get x = some (.cells cells ro)) (p4 : cellAt cells (i * 4 + 2) = some (.int .i64 f.may))
    (hQ : ∀ T', KeepT [1, 2, 3, 4, 8, 64, 65, 66, 13, 15, 16] T T' → tget T' 17 = .bool (f.whole st) → Q .normal ⟨T', D, A⟩) : W AP KL g rd pC126 ⟨T, D, A⟩ Q := by
  by_cases c1 : f.may = -1
  · simp (disch := as_aux_lemma => first | omega | simp only [hDs] <;> omega | simp [isCell]) [hRs, takeMarks, resA, resAll, resOne, Value.cells, pC126, t2, t3, ti, idxSA_ok, hx, p4, c1]
    exact hQ _ (by simp) (by simp [FT.whole, c1])
  · simp (disch := as_aux_lemma => first | omega | simp only [hDs] <;> omega | simp [isCell]) [hRs, takeMarks, resA, resAll, resOne, Value.cells, pC126, t2, t3, ti, idxSA_ok, hx, p4, c1]
    exact hQ _ (by simp) (by simp [FT.whole, c1])
theorem E126_ok {f : FT} {x n c i st : Nat} {ro : Bool} {cells : List Value} (hi : i < n) (hn : n < 1000000) (t2 : tget T 2 = .slice (some ⟨x, 0, some 4⟩) n c) (t3 : tget T 3 = .int .i64 st) (ti : tget T 13 = .int .i64 i) (hx : A.get x = some (.cells cells ro)) (p5 : cellAt cells (i * 4 + 3) = some (.int .i64 f.must))
    (hQ : ∀ T', KeepT [1, 2, 3, 4, 8, 64, 65, 66, 13, 15, 16, 17] T T' → tget T' 18 = .bool (f.gone st) → Q .normal ⟨T', D, A⟩) : W AP KL g rd pE126 ⟨T, D, A⟩ Q := by
  by_cases c1 : 0 ≤ f.must
  · simp (disch := as_aux_lemma => first | omega | simp only [hDs] <;> omega | simp [isCell]) [hRs, takeMarks, resA, resAll, resOne, Value.cells, pE126, t2, t3, ti, idxSA_ok, hx, p5, c1]
    exact hQ _ (by simp) (by simp [FT.gone, c1])
  · simp (disch := as_aux_lemma => first | omega | simp only [hDs] <;> omega | simp [isCell]) [hRs, takeMarks, resA, resAll, resOne, Value.cells, pE126, t2, t3, ti, idxSA_ok, hx, p5, c1]
    exact hQ _ (by simp) (by simp [FT.gone, c1])
theorem D126_ok {X Y c : Nat} {L : List Int} {lo hi : Int} {w : Bool} (hc : c * 2 + 1 < L.length) (tx : tget T 15 = .pointer (some ⟨Y, c * 2, none⟩)) (tc : tget T 16 = .pointer (some ⟨X, 0, none⟩)) (tw : tget T 17 = .bool w) (hY : A.get Y = some (.cells (ints L) false)) (hX : A.get X = some (.cells [.int .i64 lo, .int .i64 hi] false)) (hg : g ≤ Y)
    (hQ : ∀ T' A', KeepT [1, 2, 3, 4, 8, 64, 65, 66, 13, 15, 16, 17, 18] T T' → But Y A A' → A'.get Y = some (.cells (ints (lift1 L c w lo)) false) → Q .normal ⟨T', D, A'⟩) : W AP KL g rd pD126 ⟨T, D, A⟩ Q := by
  cases w with
  | true =>
    simp (disch := as_aux_lemma => first | omega | simp only [hDs] <;> omega | simp [isCell]) [hRs, takeMarks, resA, resAll, resOne, Value.cells, pD126, tw, tx, tc, hY, hX, ints_get, storeB_cells, setRange_intsI, List.length_set]
    exact hQ _ _ (by simp) (But.set (Hp.lt_of_get hY) (Ext'.refl _)) (by rw [get_set_same hY]; rfl)
  | false =>
    simp (disch := as_aux_lemma => first | omega | simp only [hDs] <;> omega | simp [isCell]) [hRs, takeMarks, resA, resAll, resOne, Value.cells, pD126, tw]
    exact hQ _ _ (by simp) (But.of_ext (Ext'.refl _)) (by rw [hY]; rfl)
theorem F126_ok {X Y c : Nat} {L : List Int} {lo hi : Int} {w go : Bool} (hc : c * 2 + 1 < L.length) (tx : tget T 15 = .pointer (some ⟨Y, c * 2, none⟩)) (tc : tget T 16 = .pointer (some ⟨X, 0, none⟩)) (tw : tget T 17 = .bool w) (tg : tget T 18 = .bool go) (hY : A.get Y = some (.cells (ints L) false)) (hX : A.get X = some (.cells [.int .i64 lo, .int .i64 hi] false)) (hg : g ≤ Y)
    (hQ : ∀ T' A', KeepT [1, 2, 3, 4, 8, 64, 65, 66, 13, 15, 16, 17, 18] T T' → But Y A A' → A'.get Y = some (.cells (ints (lift2 L c w go hi)) false) → Q .normal ⟨T', D, A'⟩) : W AP KL g rd pF126 ⟨T, D, A⟩ Q := by
  cases w with
  | true =>
    cases go with
    | true =>
      simp (disch := as_aux_lemma => first | omega | simp only [hDs] <;> omega | simp [isCell]) [hRs, takeMarks, resA, resAll, resOne, Value.cells, pF126, tw, tg, tx, tc, hY, hX, ints_get, storeB_cells, setRange_intsI, List.length_set]
      exact hQ _ _ (by simp) (But.set (Hp.lt_of_get hY) (Ext'.refl _)) (by rw [get_set_same hY]; rfl)
    | false =>
      simp (disch := as_aux_lemma => first | omega | simp only [hDs] <;> omega | simp [isCell]) [hRs, takeMarks, resA, resAll, resOne, Value.cells, pF126, tw, tg, tx, tc, hY, hX, ints_get, storeB_cells, setRange_intsI, List.length_set]
      exact hQ _ _ (by simp) (But.set (Hp.lt_of_get hY) (Ext'.refl _)) (by rw [get_set_same hY]; rfl)
  | false =>
    cases go with
    | false =>
      simp (disch := as_aux_lemma => first | omega | simp only [hDs] <;> omega | simp [isCell]) [hRs, takeMarks, resA, resAll, resOne, Value.cells, pF126, tw, tg, tx, tc, hY, hX, ints_get, storeB_cells, setRange_intsI, List.length_set]
      exact hQ _ _ (by simp) (But.set (Hp.lt_of_get hY) (Ext'.refl _)) (by rw [get_set_same hY]; rfl)
    | true =>
      simp (disch := as_aux_lemma => first | omega | simp only [hDs] <;> omega | simp [isCell]) [hRs, takeMarks, resA, resAll, resOne, Value.cells, pF126, tw, tg]
      exact hQ _ _ (by simp) (But.of_ext (Ext'.refl _)) (by rw [hY]; rfl)
end
end Go.Ab.Dike
namespace Go.Ab.Dike
open Go Go.Ab
section
variable {a b : Int}
@[simp] theorem _root_.Go.Ab.binA_eql8 : binA .eql (.int .u8 a) (.int .u8 b) = some (.bool (decide (a = b))) := rfl
@[simp] theorem _root_.Go.Ab.binA_neq8 : binA .neq (.int .u8 a) (.int .u8 b) = some (.bool (!decide (a = b))) := rfl
@[simp] theorem _root_.Go.Ab.binA_lss8 : binA .lss (.int .u8 a) (.int .u8 b) = some (.bool (decide (a < b))) := rfl
@[simp] theorem _root_.Go.Ab.binA_leq8 : binA .leq (.int .u8 a) (.int .u8 b) = some (.bool (decide (a ≤ b))) := rfl
@[simp] theorem _root_.Go.Ab.binA_gtr8 : binA .gtr (.int .u8 a) (.int .u8 b) = some (.bool (decide (b < a))) := rfl
@[simp] theorem _root_.Go.Ab.binA_geq8 : binA .geq (.int .u8 a) (.int .u8 b) = some (.bool (decide (b ≤ a))) := rfl
end
section
variable {g : Nat} {rd : Option Nat} {T : List Value} {D : List Nat} {A : Hp} {Q : Ex → St → Prop} {V : Value → Hp → Prop}
end
end Go.Ab.Dike
namespace Go.Ab.Dike
open Go Go.Ab
structure StepT where
  name : ByteArray
  an : Nat
  al : List Int
  tl : Int
  th : Int
  calm : Bool
  clear : Bool
  logs : Int
def stepC (a : Value) (s : StepT) : List Value := [.string s.name, a, .int .i64 s.tl, .int .i64 s.th, .bool s.calm, .bool s.clear, .int .i64 s.logs]
def StepAt (A : Hp) (cells : List Value) (i : Nat) (s : StepT) : Prop :=
  ∃ a, partA cells (i * 7) (some 7) = some (.agg ⟨stepC a s⟩) ∧ cellAt cells (i * 7) = some (.string s.name) ∧ cellAt cells (i * 7 + 1) = some a ∧ partA cells (i * 7 + 2) (some 2) = some (.agg ⟨[.int .i64 s.tl, .int .i64 s.th]⟩) ∧
    cellAt cells (i * 7 + 2) = some (.int .i64 s.tl) ∧ cellAt cells (i * 7 + 3) = some (.int .i64 s.th) ∧ cellAt cells (i * 7 + 4) = some (.bool s.calm) ∧ cellAt cells (i * 7 + 5) = some (.bool s.clear) ∧ cellAt cells (i * 7 + 6) = some (.int .i64 s.logs) ∧ RdS A 1 s.an (ints s.al) a
def Steps (A : Hp) (n : Nat) (S : Nat → StepT) (sl : Value) : Prop := ∃ cells, RdS A 7 n cells sl ∧ ∀ i, i < n → StepAt A cells i (S i)
theorem StepAt.mono {A A' : Hp} {cells : List Value} {i : Nat} {f : StepT} (h : StepAt A cells i f) (hA : ∀ z, z < A.n → A'.get z = A.get z) : StepAt A' cells i f := by
  obtain ⟨a, h1, h2, h3, h4, h5, h6, h7, h8, h9, h10⟩ := h
  exact ⟨a, h1, h2, h3, h4, h5, h6, h7, h8, h9, h10.mono hA⟩
theorem Steps.mono {A A' : Hp} {n : Nat} {F : Nat → StepT} {sl : Value} (h : Steps A n F sl) (hA : ∀ z, z < A.n → A'.get z = A.get z) : Steps A' n F sl := by
  obtain ⟨cells, h1, h2⟩ := h
  exact ⟨cells, h1.mono hA, fun i hi => (h2 i hi).mono hA⟩
theorem Steps.ext {A A' : Hp} {n : Nat} {F : Nat → StepT} {sl : Value} (h : Steps A n F sl) (he : Ext' A A') : Steps A' n F sl := h.mono he.2
theorem Steps.len {A : Hp} {n : Nat} {F : Nat → StepT} {sl : Value} (h : Steps A n F sl) : lenV sl = some (.int .i64 n) := by obtain ⟨_, h1, _⟩ := h; exact h1.len
theorem Steps.at {A : Hp} {n i : Nat} {F : Nat → StepT} {sl : Value} (h : Steps A n F sl) (hi : i < n) : ∃ x c ro cells, sl = .slice (some ⟨x, 0, some 7⟩) n c ∧ A.get x = some (.cells cells ro) ∧ cells.length = n * 7 ∧ ∀ j, j < n → StepAt A cells j (F j) := by
  obtain ⟨cells, h1, h2⟩ := h
  obtain ⟨x, c, ro, h3, h4⟩ := h1.at hi
  exact ⟨x, c, ro, cells, h3, h4, h1.1, h2⟩
section
variable {g : Nat} {rd : Option Nat} {T : List Value} {D : List Nat} {A : Hp} {Q : Ex → St → Prop} {V : Value → Hp → Prop}
end
end Go.Ab.Dike
namespace Go.Ab.Dike
open Go Go.Ab
section
variable {g : Nat} {rd : Option Nat} {T : List Value} {D : List Nat} {A : Hp} {Q : Ex → St → Prop} {V : Value → Hp → Prop}
end
end Go.Ab.Dike
namespace Go.Ab.Dike
open Go Go.Ab
section
variable {g : Nat} {rd : Option Nat} {T : List Value} {D : List Nat} {A : Hp} {Q : Ex → St → Prop} {V : Value → Hp → Prop}
end
end Go.Ab.Dike
namespace Go.Ab.Dike
open Go Go.Ab
def never : Int := 1099511627776
section
variable {g : Nat} {rd : Option Nat} {T : List Value} {D : List Nat} {A : Hp} {Q : Ex → St → Prop} {V : Value → Hp → Prop}
end
end Go.Ab.Dike
namespace Go.Ab.Dike
open Go Go.Ab
section
variable {g : Nat} {rd : Option Nat} {T : List Value} {D : List Nat} {A : Hp} {Q : Ex → St → Prop} {V : Value → Hp → Prop}
end
end Go.Ab.Dike
namespace Go.Ab.Dike
open Go Go.Ab
def Bd (B v : Int) : Prop := 0 ≤ v ∧ (v ≤ B ∨ v = never)
theorem Bd.max {B v u : Int} (h : Bd B v) (h' : Bd B u) (hB : B ≤ never) : Bd B (max v u) := by
  unfold Bd never at *
  omega
theorem Bd.le {B v : Int} (h : Bd B v) (hB : B ≤ never) : v ≤ never := by unfold Bd at h; omega
theorem Bd.mono {B B' v : Int} (h : Bd B v) (hB : B ≤ B') : Bd B' v := by unfold Bd at *; omega
structure Fine (n : Nat) (S : Nat → StepT) (b : Int × Int) (nw : Nat) (ws : List Int) : Prop where
  n32 : n ≤ 32
  bb : 0 ≤ b.1 ∧ b.1 ≤ 1000000000 ∧ 0 ≤ b.2 ∧ b.2 ≤ 1000000000
  ww : ∀ i, i < nw → 0 ≤ gi ws (i * 2) ∧ gi ws (i * 2 + 1) ≤ 1000000000 ∧ gi ws (i * 2) ≤ 1000000000
  tt : ∀ i, i < n → (0 ≤ (S i).tl ∧ (S i).tl ≤ 100000000) ∧ (0 ≤ (S i).th ∧ (S i).th ≤ 100000000)
  aa : ∀ i, i < n → ∀ k, k < (S i).an → 0 ≤ gi (S i).al k ∧ gi (S i).al k < i
end Go.Ab.Dike
namespace Go.Ab.Dike
open Go Go.Ab
section
variable {g : Nat} {rd : Option Nat} {T : List Value} {D : List Nat} {A : Hp} {Q : Ex → St → Prop} {V : Value → Hp → Prop}
end
end Go.Ab.Dike
namespace Go.Ab.Dike
open Go Go.Ab
section
variable {g : Nat} {rd : Option Nat} {T : List Value} {D : List Nat} {A : Hp} {Q : Ex → St → Prop} {V : Value → Hp → Prop}
end
end Go.Ab.Dike
namespace Go.Ab.Dike
open Go Go.Ab
def raiseL (ss : List Int) (F : Nat → FT) (st : Nat) (zs : List Int) : Nat → List Int
  | 0 => zs
  | k + 1 => lift2 (lift1 (raiseL ss F st zs k) (gi ss (k * 8)).toNat ((F k).whole st) (gi (F k).cz (st * 2))) (gi ss (k * 8)).toNat ((F k).whole st) ((F k).gone st) (gi (F k).cz (st * 2 + 1))
theorem raiseL_length {ss : List Int} {F : Nat → FT} {st : Nat} {zs : List Int} : ∀ k, (raiseL ss F st zs k).length = zs.length
  | 0 => rfl
  | k + 1 => by rw [raiseL, lift2_length, lift1_length, raiseL_length k]
def gridB (w h s : Int) (Y m cY : Nat) : ABlk := .cells [.int .i64 w, .int .i64 h, .int .i64 s, .slice (some ⟨Y, 0, some 2⟩) m cY] false
theorem body126_eq : body126 = .seq (.ops [oB 67 .lss 66 65]) (.seq (.cond (.t 67) .skip (.exit 4)) (.seq (.block 5 (.seq pA126 (.seq pB126 (.seq pC126 (.seq pD126 (.seq pE126 pF126)))))) (.ops [oC 140 .add 66 1, oM 66 140]))) := rfl
section
variable {g : Nat} {rd : Option Nat} {T : List Value} {D : List Nat} {A : Hp} {Q : Ex → St → Prop} {V : Value → Hp → Prop}
theorem loop126 {A1 : Hp} {X4 Y N n m cY st : Nat} {F : Nat → FT} {zs ss : List Int} {sl fl : Value} {w h s : Int} (hold : ∀ A : Hp, (∀ z, z < N → z ≠ Y → A.get z = A1.get z) → RdS A 8 n (ints ss) sl ∧ Fates A n F fl ∧ A.get X4 = some (gridB w h s Y m cY)) (hn : n < 1000000) (hzs : zs.length = m * 2)
    (hcell : ∀ i, i < n → ∃ c : Nat, gi ss (i * 8) = (c : Int) ∧ c < m) (hst : ∀ i, i < n → st < (F i).cn) (hYN : Y < N) (hXN : X4 < N) (hXY : X4 ≠ Y) (hgY : g ≤ Y) (hgN : g ≤ N)
    (hend : ∀ T' A', KeepT [2, 3, 4, 8] T T' → A'.get Y = some (.cells (ints (raiseL ss F st zs n)) false) → N ≤ A'.n → (∀ z, z < N → z ≠ Y → A'.get z = A1.get z) → Q (.exit 4) ⟨T', D, A'⟩)
    (t2 : tget T 2 = fl) (t3 : tget T 3 = .int .i64 st) (t4 : tget T 4 = .pointer (some ⟨X4, 0, none⟩)) :
    ∀ (k i : Nat) {T1 : List Value} {A : Hp}, i + k = n → KeepT [2, 3, 4, 8] T T1 → tget T1 64 = sl → tget T1 65 = .int .i64 n → tget T1 66 = .int .i64 i → A.get Y = some (.cells (ints (raiseL ss F st zs i)) false) → N ≤ A.n → (∀ z, z < N → z ≠ Y → A.get z = A1.get z) → W AP KL g rd (.loop body126) ⟨T1, D, A⟩ Q := by
  intro k
  induction k with
  | zero =>
    intro i T1 A hik hk t64 t65 t66 hY hN ho
    have : i = n := by omega
    subst this
    skip
    rw [W_loop]
    simp (disch := as_aux_lemma => first | omega | simp only [hDs] <;> omega | simp [isCell]) [hRs, takeMarks, resA, resAll, resOne, Value.cells, body126, t65, t66]
    exact hend _ A (hk.trans (by simp)) hY hN ho
  | succ k ih =>
    intro i T1 A hik hk t64 t65 t66 hY hN ho
    obtain ⟨hsl, hfl, hX4⟩ := hold A ho
    have hlenS := hsl.len
    obtain ⟨x, cx, ro, rfl, hx⟩ := hsl.at (i := i) (by omega)
    obtain ⟨xf, cf, rof, cells, rfl, hxf, hf⟩ := hfl.at (i := i) (by omega)
    have hzl := hsl.1
    rw [ints_length] at hzl
    obtain ⟨c, hc, hcm⟩ := hcell i (by omega)
    obtain ⟨a, b, p1, p2, p3, p4, p5, ra, rb⟩ := hf
    obtain ⟨y, ca, roa, rfl, hy⟩ := ra.at (i := st) (hst i (by omega))
    have hal := ra.1
    rw [ints_length] at hal
    have hsti := hst i (by omega)
    have hp := sec_part (ss := ss) (i := i) (by omega)
    have hxn := Hp.lt_of_get hx
    have hxfn := Hp.lt_of_get hxf
    have hyn := Hp.lt_of_get hy
    have hX4n := Hp.lt_of_get hX4
    skip
    have u2 := (hk.at 2 rfl).trans t2
    have u3 := (hk.at 3 rfl).trans t3
    have u4 := (hk.at 4 rfl).trans t4
    obtain ⟨L, hL⟩ : ∃ L, L = raiseL ss F st zs i := ⟨_, rfl⟩
    have hLl : L.length = m * 2 := by rw [hL, raiseL_length, hzs]
    rw [← hL] at hY
    obtain ⟨lo, hlo⟩ : ∃ lo, lo = gi (F i).cz (st * 2) := ⟨_, rfl⟩
    obtain ⟨hi, hhi⟩ : ∃ hi, hi = gi (F i).cz (st * 2 + 1) := ⟨_, rfl⟩
    have hap : partA (ints (F i).cz) (st * 2) (some 2) = some (.agg ⟨[.int .i64 lo, .int .i64 hi]⟩) := by rw [hlo, hhi]; exact ints_two (by omega)
    have hstep : raiseL ss F st zs (i + 1) = lift2 (lift1 L c ((F i).whole st) lo) c ((F i).whole st) ((F i).gone st) hi := by
      show lift2 (lift1 (raiseL ss F st zs i) (gi ss (i * 8)).toNat _ _) _ _ _ _ = _
      rw [← hL, hc, Int.toNat_natCast, hlo, hhi]
    have hYn := Hp.lt_of_get hY
    have e3 := wrId (n := (i : Int) + 1) (by omega) (by omega)
    rw [W_loop]
    simp (disch := as_aux_lemma => first | omega | simp only [hDs] <;> omega | simp [isCell]) [hRs, takeMarks, resA, resAll, resOne, Value.cells, body126_eq, t65, t66, show ((i : Int) < n) by omega]
    simp (disch := as_aux_lemma => first | omega | simp only [hDs] <;> omega | simp [isCell]) [hRs, takeMarks, resA, resAll, resOne, Value.cells, pA126, t64, t66, idxSA_ok, hx, hp, Sec.cells, secA, storeB_cells, setRange, set_push_eq]
    simp (disch := as_aux_lemma => first | omega | simp only [hDs] <;> omega | simp [isCell]) [hRs, takeMarks, resA, resAll, resOne, Value.cells, pB126, u2, u3, u4, hX4, gridB, hc, idxSA_ok, hxf, p2, hy, hap, storeB_cells, setRange, set_push_eq]
    obtain ⟨B, hB⟩ : ∃ B, B = (A.push (.cells [.int .i64 (c : Int), .int .i64 (gi ss (i * 8 + 1)), .int .i64 (gi ss (i * 8 + 2)), .int .i64 (gi ss (i * 8 + 3)), .int .i64 (gi ss (i * 8 + 4)), .int .i64 (gi ss (i * 8 + 5)), .int .i64 (gi ss (i * 8 + 6)), .int .i64 (gi ss (i * 8 + 7))] false)).push (.cells [.int .i64 lo, .int .i64 hi] false) := ⟨_, rfl⟩
    rw [← hB]
    have hBx : B.get (A.n + 1) = some (.cells [.int .i64 lo, .int .i64 hi] false) := by rw [hB, get_push_eq (by simp)]
    have eB : Ext' A B := by rw [hB]; exact (Ext'.push A _).trans (Ext'.push _ _)
    have hBn : B.n = A.n + 2 := by rw [hB]; rfl
    obtain ⟨X, hXe⟩ : ∃ X, X = A.n + 1 := ⟨_, rfl⟩
    have hBX : B.get X = some (.cells [.int .i64 lo, .int .i64 hi] false) := by rw [hXe]; exact hBx
    have hBY := eB.get hY
    have hXB : X < B.n := Hp.lt_of_get hBX
    refine C126_ok (A := B) (f := F i) (i := i) (st := st) (x := xf) (n := n) (c := cf) (cells := cells) (ro := rof) (by omega) hn (by simp [u2]) (by simp [u3]) (by simp) (eB.get hxf) p4 ?_
    intro T2 k2 w2
    simp only [SeqQ_normal, W_seq]
    refine D126_ok (X := X) (Y := Y) (c := c) (L := L) (lo := lo) (hi := hi) (w := (F i).whole st) (by omega) (by rw [k2.at 15 rfl]; simp) (by rw [k2.at 16 rfl, hXe]; simp) w2 hBY hBX hgY ?_
    intro T3 A3 k3 b3 y3
    simp only [SeqQ_normal, W_seq]
    have n3 := b3.1
    have o3 : ∀ z, z < N → z ≠ Y → A3.get z = A1.get z := fun z hz hzY => by rw [b3.2 z (by omega) hzY, eB.2 z (by omega), ho z hz hzY]
    obtain ⟨xf', cf', rof', cells', hcc, hxf', _, _, _, _, _, _, p5', _, _⟩ := (hold A3 o3).2.1.at (i := i) (by omega)
    cases hcc
    refine E126_ok (A := A3) (f := F i) (i := i) (st := st) (x := xf) (n := n) (c := cf) (cells := cells') (ro := rof') (by omega) hn (by rw [k3.at 2 rfl, k2.at 2 rfl]; simp [u2]) (by rw [k3.at 3 rfl, k2.at 3 rfl]; simp [u3]) (by rw [k3.at 13 rfl, k2.at 13 rfl]; simp) hxf' p5' ?_
    intro T4 k4 g4
    simp only [SeqQ_normal]
    have hBX3 : A3.get X = _ := (b3.2 X hXB (by omega)).trans hBX
    refine F126_ok (X := X) (Y := Y) (c := c) (L := lift1 L c ((F i).whole st) lo) (lo := lo) (hi := hi) (w := (F i).whole st) (go := (F i).gone st) (by rw [lift1_length]; omega) (by rw [k4.at 15 rfl, k3.at 15 rfl, k2.at 15 rfl]; simp) (by rw [k4.at 16 rfl, k3.at 16 rfl, k2.at 16 rfl, hXe]; simp) (by rw [k4.at 17 rfl, k3.at 17 rfl]; exact w2) g4 y3 hBX3 hgY ?_
    intro T5 A5 k5 b5 y5
    have n5 := b5.1
    have q : ∀ j, [1, 2, 3, 4, 8, 64, 65, 66].contains j = true → tget T5 j = tget T2 j := fun j hj => by
      have hj' : j ∈ [1, 2, 3, 4, 8, 64, 65, 66] := by simpa using hj
      have e1 : [1, 2, 3, 4, 8, 64, 65, 66, 13, 15, 16, 17, 18].contains j = true := by simp at hj' ⊢; omega
      have e2 : [1, 2, 3, 4, 8, 64, 65, 66, 13, 15, 16, 17].contains j = true := by simp at hj' ⊢; omega
      rw [k5.at j e1, k4.at j e2, k3.at j e1]
    have q66 : tget T5 66 = .int .i64 i := by rw [q 66 rfl, k2.at 66 rfl]; simp [t66]
    simp (disch := as_aux_lemma => first | omega | simp only [hDs] <;> omega | simp [isCell]) [hRs, takeMarks, resA, resAll, resOne, Value.cells, q66, e3]
    refine ih (i + 1) (by omega) ?_ (by rw [tget_tset]; simp [q 64 rfl, k2.at 64 rfl, t64]) (by simp [q 65 rfl, k2.at 65 rfl, t65]) (by simp) (by rw [hstep]; exact y5) (by omega) fun z hz hzY => by rw [b5.2 z (by omega) hzY]; exact o3 z hz hzY
    refine hk.trans ?_
    simp [q 2 rfl, q 3 rfl, q 4 rfl, q 8 rfl, k2.at 2 rfl, k2.at 3 rfl, k2.at 4 rfl, k2.at 8 rfl]
end
end Go.Ab.Dike
namespace Go.Ab.Dike
open Go Go.Ab
theorem _root_.Go.Ab.RdS.cellsAt {A : Hp} {k n : Nat} {cs : List Value} {sv : Value} (h : RdS A k n cs sv) : cellsAt A (n * k) sv = some cs := by
  obtain ⟨h0, ⟨rfl, rfl⟩ | ⟨b, c, ro, rfl, hb⟩⟩ := h
  · have : cs = [] := List.eq_nil_of_length_eq_zero (by simpa using h0)
    subst this; simp [Go.Ab.cellsAt]
  · simp only [Go.Ab.cellsAt, hb]
    rw [if_pos (by omega)]
    simp [← h0]
theorem copy_fresh {g k bytes m : Nat} {A : Hp} {cs : List Value} {src : Value} (h : RdS A k m cs src) (hcell : cs.all isCell = true) (hg : g ≤ A.n) (hk : 0 < k) (hr : m * bytes ≤ room ∧ m ≤ room) :
    ∃ Y c A', appendA g (A.push (.cells [] false)) k bytes (.slice (some ⟨A.n, 0, some k⟩) 0 0) src = some (.slice (some ⟨Y, 0, some k⟩) m c, A') ∧ Ext' A A' ∧ A'.get Y = some (.cells cs false) ∧ A.n ≤ Y := by
  have e1 := Ext'.push A (.cells [] false)
  have hc := (h.push (x := .cells [] false)).cellsAt
  obtain ⟨p, c, rfl⟩ := h.isSlice
  unfold appendA
  simp only [hc]
  rw [if_pos ⟨hcell, hk⟩]
  by_cases hm : m = 0
  · subst hm
    rw [if_pos rfl]
    refine ⟨_, _, _, rfl, e1, ?_, Nat.le_refl _⟩
    have : cs = [] := List.eq_nil_of_length_eq_zero (by have := h.1; simpa using this)
    rw [get_push_new, this]
  · rw [if_neg hm]
    simp only [get_push_new]
    rw [if_pos ⟨hg, by simpa using hr.1, by simpa using hr.2, trivial⟩, if_pos (by simp)]
    refine ⟨A.n + 1, m, ((A.push (.cells [] false)).set A.n none).push (.cells cs false), by simp, ⟨by simp; omega, fun z hz => ?_⟩, by rw [get_push_eq (by simp)], by omega⟩
    rw [get_push_old (by simp; omega), get_set_ne (by simp) (by omega), get_push_old hz]
theorem gridE_zero {w h s : Int} {m : Nat} {zs : List Int} (h0 : gridE w h s m zs = 0) : 0 < m := by
  unfold gridE at h0
  split at h0
  · cases h0
  · rename_i hc
    split at h0
    · cases h0
    · rename_i hm
      have hm' : (m : Int) = wr .i64 (w * h) := Decidable.not_not.1 hm
      simp only [not_or, Bool.not_eq_false, Bool.and_eq_true, decide_eq_true_eq] at hc
      obtain ⟨⟨a1, a2⟩, ⟨b1, b2⟩, _⟩ := hc
      have l1 : 1 ≤ w * h := by have := Int.mul_le_mul a1 b1 (by decide) (by omega); simpa using this
      have l2 : w * h ≤ 576 := by have := Int.mul_le_mul a2 b2 (by omega) (by decide); simpa using this
      rw [wrId (by omega) (by omega)] at hm'
      omega
theorem check_zero {w h s : Int} {m n : Nat} {zs ss : List Int} (h0 : checkE w h s m zs n ss = 0) : 0 < m ∧ n ≤ 256 ∧ ∀ i, i < n → ∃ c : Nat, gi ss (i * 8) = (c : Int) ∧ c < m := by
  unfold checkE at h0
  split at h0
  · rename_i h'; exact absurd h0 h'
  · rename_i h1
    split at h0
    · cases h0
    · refine ⟨gridE_zero (Decidable.not_not.1 h1), by omega, fun i hi => ?_⟩
      have := firstE_all h0 i hi
      unfold stepE at this
      split at this
      · cases this
      · rename_i h2
        exact ⟨(gi ss (i * 8)).toNat, by omega, by omega⟩
def raiseE (w h s : Int) (m : Nat) (zs : List Int) (n : Nat) (ss : List Int) (nf : Nat) (F : Nat → FT) (step : Int) : Int :=
  if checkE w h s m zs n ss ≠ 0 then checkE w h s m zs n ss else if nf ≠ n then 11 else if step < 0 then 3 else firstE (fateE F step) nf
theorem raiseE_a {w h s : Int} {m : Nat} {zs : List Int} {n : Nat} {ss : List Int} {nf : Nat} {F : Nat → FT} {step : Int} (h1 : checkE w h s m zs n ss ≠ 0) : raiseE w h s m zs n ss nf F step = checkE w h s m zs n ss := if_pos h1
theorem raiseE_b {w h s : Int} {m : Nat} {zs : List Int} {n : Nat} {ss : List Int} {nf : Nat} {F : Nat → FT} {step : Int} (h1 : checkE w h s m zs n ss = 0) (h2 : nf ≠ n) : raiseE w h s m zs n ss nf F step = 11 := by rw [raiseE, if_neg (fun h => h h1), if_pos h2]
theorem raiseE_c {w h s : Int} {m : Nat} {zs : List Int} {n : Nat} {ss : List Int} {nf : Nat} {F : Nat → FT} {step : Int} (h1 : checkE w h s m zs n ss = 0) (h2 : nf = n) (h3 : step < 0) : raiseE w h s m zs n ss nf F step = 3 := by rw [raiseE, if_neg (fun h => h h1), if_neg (fun h => h h2), if_pos h3]
theorem raiseE_d {w h s : Int} {m : Nat} {zs : List Int} {n : Nat} {ss : List Int} {nf : Nat} {F : Nat → FT} {step : Int} (h1 : checkE w h s m zs n ss = 0) (h2 : nf = n) (h3 : ¬ step < 0) : raiseE w h s m zs n ss nf F step = firstE (fateE F step) nf := by rw [raiseE, if_neg (fun h => h h1), if_neg (fun h => h h2), if_neg h3]
def RaiseOut (w h s : Int) (m : Nat) (zs : List Int) (n : Nat) (ss : List Int) (nf : Nat) (F : Nat → FT) (step : Int) (v : Value) (A' : Hp) : Prop :=
  (raiseE w h s m zs n ss nf F step ≠ 0 ∧ v = .tuple ⟨[gridV 0 0 0 (.slice none 0 0), .int .i64 (raiseE w h s m zs n ss nf F step)]⟩) ∨
  (raiseE w h s m zs n ss nf F step = 0 ∧ ∃ sl, v = .tuple ⟨[gridV w h s sl, .int .i64 0]⟩ ∧ RdS A' 2 m (ints (raiseL ss F step.toNat zs n)) sl)
section
variable {g : Nat} {rd : Option Nat} {T : List Value} {D : List Nat} {A : Hp} {Q : Ex → St → Prop} {V : Value → Hp → Prop}
theorem w161 {m : Nat} {zs : List Int} {sl : Value} (hsl : RdS A 2 m (ints zs) sl) (hm : 0 < m) (hm2 : m < 1000000) (hg : g ≤ A.n) (hV : ∀ Y c A', Ext' A A' → A'.get Y = some (.cells (ints zs) false) → A.n ≤ Y → V (.slice (some ⟨Y, 0, some 2⟩) m c) A') : WF AP KL g 161 [sl] A V := by
  rw [WF_body (show KL 161 = none from rfl) (show AP 161 = some F161 from rfl)]
  obtain ⟨x, c, ro, rfl, hx⟩ := hsl.at hm
  obtain ⟨Y, c', A', ha, he, hY, hAY⟩ := copy_fresh (g := g) (bytes := 16) hsl (ints_isCell zs) hg (by decide) (by unfold room; omega)
  simp (disch := as_aux_lemma => first | omega | simp only [hDs] <;> omega | simp [isCell]) [hRs, takeMarks, resA, resAll, resOne, Value.cells, F161, slitA, fillA, eqNilA, isNil, show zeros 0 [Value.int IntKind.i64 0, Value.int IntKind.i64 0] = [] from rfl, ha]
  exact hV Y c' A' he hY hAY
theorem w126 {w h s step : Int} {m n nf : Nat} {zs ss : List Int} {F : Nat → FT} {gr sl fl : Value} (hgr : RdS A 2 m (ints zs) gr) (hm : m < 1000000) (hsl : RdS A 8 n (ints ss) sl) (hn : n < 1000000) (hfl : Fates A nf F fl) (hnf : nf < 1000000) (hg : g ≤ A.n)
    (hV : ∀ v A', Ext' A A' → RaiseOut w h s m zs n ss nf F step v A' → V v A') : WF AP KL g 126 [gridV w h s gr, sl, fl, .int .i64 step] A V := by
  rw [WF_body (show KL 126 = none from rfl) (show AP 126 = some F126 from rfl)]
  obtain ⟨B, hB⟩ : ∃ B, B = (A.push (.cells [.int .i64 w, .int .i64 h, .int .i64 s, gr] false)).push zGrid := ⟨_, rfl⟩
  have hBn : B.n = A.n + 2 := by rw [hB]; rfl
  have eB : Ext' A B := by rw [hB]; exact (Ext'.push A _).trans (Ext'.push _ _)
  have hX : B.get A.n = some (.cells [.int .i64 w, .int .i64 h, .int .i64 s, gr] false) := by rw [hB, get_push_old (by simp), get_push_new]
  have h8 : B.get (A.n + 1) = some zGrid := by rw [hB, get_push_eq (by simp)]
  have hB' : B = (A.push (.cells [.int .i64 w, .int .i64 h, .int .i64 s, gr] false)).push (.cells [.int .i64 0, .int .i64 0, .int .i64 0, .slice none 0 0] false) := hB
  have bad : ∀ (A2 : Hp) (e : Int), A2.get (A.n + 1) = some zGrid → But (A.n + 1) B A2 → raiseE w h s m zs n ss nf F step = e → e ≠ 0 → V (.tuple ⟨[gridV 0 0 0 (.slice none 0 0), .int .i64 e]⟩) A2 := by
    intro A2 e _ he hh h0
    have := he.1
    refine hV _ _ ⟨by omega, fun z hz => ?_⟩ (.inl ⟨by rw [hh]; exact h0, by rw [hh]⟩)
    rw [he.2 z (by omega) (by omega), eB.2 z hz]
  simp (disch := as_aux_lemma => first | omega | simp only [hDs] <;> omega | simp [isCell]) [hRs, takeMarks, resA, resAll, resOne, Value.cells, F126, gridV, ← hB', hX]
  refine w128 (eB.rdS hgr) hm (eB.rdS hsl) hn (by omega) fun A1 e1 => ?_
  have n1 := e1.1
  have g8 := e1.get h8
  by_cases c1 : checkE w h s m zs n ss = 0
  · obtain ⟨hm0, hn256, hcell⟩ := check_zero c1
    by_cases c2 : nf = n
    · subst c2
      by_cases c3 : step < 0
      · have gs := get_set_same (b := some (.cells [.int .i64 0, .int .i64 0, .int .i64 0, .slice none 0 0] false)) g8
        simp (disch := as_aux_lemma => first | omega | simp only [hDs] <;> omega | simp [isCell]) [hRs, takeMarks, resA, resAll, resOne, Value.cells, c1, hfl.len, hsl.len, c3, fillA, g8, storeB_cells, setRange, zGrid, gs]
        exact bad _ 3 gs (But.set (by omega) e1) (raiseE_c c1 rfl c3) (by decide)
      · have hE := raiseE_d (w := w) (h := h) (s := s) (m := m) (zs := zs) (ss := ss) (F := F) c1 rfl c3
        obtain ⟨st, hst⟩ : ∃ st : Nat, step = st := ⟨step.toNat, by omega⟩
        subst hst
        simp (disch := as_aux_lemma => first | omega | simp only [hDs] <;> omega | simp [isCell]) [hRs, takeMarks, resA, resAll, resOne, Value.cells, c1, hfl.len, hsl.len, c3]
        refine loop126a (A0 := A1) (X8 := A.n + 1) (n := nf) (F := F) (st := st) ((hfl.ext eB).ext e1) hnf g8 (by omega) ?_ ?_ (T := _) ?_ ?_ nf 0 (by omega) rfl (Ext'.refl _) (fun _ _ => rfl) (by simp) (by simp) (by simp)
        · intro T' A' e he hne hb g8' t8 t9
          simp (disch := as_aux_lemma => first | omega | simp only [hDs] <;> omega | simp [isCell]) [hRs, takeMarks, resA, resAll, resOne, Value.cells, t8, t9, g8', zGrid]
          exact bad A' e g8' ⟨by have := hb.1; omega, fun z hz hz8 => (hb.2 z (by omega) hz8).trans (e1.2 z hz)⟩ (by rw [hE]; exact he) hne
        · intro T' A2 he e2 hk
          have n2 := e2.1
          have u1 := hk.at 1 rfl
          have u2 := hk.at 2 rfl
          have u3 := hk.at 3 rfl
          have u4 := hk.at 4 rfl
          have u8 := hk.at 8 rfl
          simp at u1 u2 u3 u4 u8
          have hX2 := e2.get (e1.get hX)
          have g82 := e2.get g8
          have e02 := eB.trans (e1.trans e2)
          simp (disch := as_aux_lemma => first | omega | simp only [hDs] <;> omega | simp [isCell]) [hRs, takeMarks, resA, resAll, resOne, Value.cells, u4, hX2]
          refine w161 (e02.rdS hgr) hm0 hm (by omega) fun Y cY A3 e3 hY hY2 => ?_
          have n3 := e3.1
          have hX3 := e3.get hX2
          have hYn := Hp.lt_of_get hY
          simp (disch := as_aux_lemma => first | omega | simp only [hDs] <;> omega | simp [isCell]) [hRs, takeMarks, resA, resAll, resOne, Value.cells, u1, u4, hX3, storeB_cells, setRange, hsl.len]
          obtain ⟨A4, hA4⟩ : ∃ A4, A4 = A3.set A.n (some (gridB w h s Y m cY)) := ⟨_, rfl⟩
          have hA4' : A3.set A.n (some (.cells [.int .i64 w, .int .i64 h, .int .i64 s, .slice (some ⟨Y, 0, some 2⟩) m cY] false)) = A4 := hA4.symm
          rw [hA4']
          have hA4n : A4.n = A3.n := by rw [hA4]; rfl
          have o4 : ∀ z, z ≠ A.n → A4.get z = A3.get z := fun z hz => by rw [hA4, get_set_ne (by omega) hz]
          have hX4 : A4.get A.n = some (gridB w h s Y m cY) := by rw [hA4]; exact get_set_same hX3
          have e04 : Ext' A A4 := ⟨by omega, fun z hz => by rw [o4 z (by omega), e3.2 z (by omega), e02.2 z hz]⟩
          refine loop126 (A1 := A4) (X4 := A.n) (Y := Y) (N := A4.n) (n := nf) (m := m) (cY := cY) (st := st) (F := F) (zs := zs) (ss := ss) (sl := sl) (fl := fl) (w := w) (h := h) (s := s) ?_ hn (by have := hgr.1; rw [ints_length] at this; exact this) hcell (fun i hi => by have := fateE_len (firstE_all he i hi); omega) (by omega) (by omega) (by omega) (by omega) (by omega) ?_ (T := _) ?_ ?_ ?_ nf 0 (by omega) (fun _ _ => rfl) (by simp) (by simp) (by simp) (by rw [o4 Y (by omega)]; exact hY) (Nat.le_refl _) (fun z _ _ => rfl)
          · intro A' ho
            have hA' : ∀ z, z < A.n → A'.get z = A.get z := fun z hz => by rw [ho z (by omega) (by omega), e04.2 z hz]
            exact ⟨hsl.mono hA', hfl.mono hA', (ho A.n (by omega) (by omega)).trans hX4⟩
          · intro T5 A5 hk5 hY5 hN5 ho5
            have v4 := hk5.at 4 rfl
            have v8 := hk5.at 8 rfl
            simp [u4, u8] at v4 v8
            have hX5 : A5.get A.n = some (gridB w h s Y m cY) := (ho5 A.n (by omega) (by omega)).trans hX4
            have h85 : A5.get (A.n + 1) = some zGrid := by rw [ho5 _ (by omega) (by omega), o4 _ (by omega), e3.2 _ (by omega)]; exact g82
            have gs : ∀ b', (A5.set (A.n + 1) (some b')).get (A.n + 1) = some b' := fun b' => get_set_same h85
            unfold gridB at hX5
            unfold zGrid at h85
            simp (disch := as_aux_lemma => first | omega | simp only [hDs] <;> omega | simp [isCell]) [hRs, takeMarks, resA, resAll, resOne, Value.cells, v4, v8, hX5, h85, storeB_cells, setRange, gs]
            refine hV _ _ ⟨by simp; omega, fun z hz => ?_⟩ (.inr ⟨by rw [hE]; exact he, _, rfl, ?_⟩)
            · rw [get_set_ne (by omega) (by omega), ho5 z (by omega) (by omega), e04.2 z hz]
            · refine ⟨by rw [ints_length, raiseL_length]; have := hgr.1; rw [ints_length] at this; exact this, .inr ⟨Y, cY, false, rfl, ?_⟩⟩
              rw [get_set_ne (by omega) (by omega)]
              exact hY5
          · simp [u2]
          · simp [u3]
          · simp [u4]
        · simp
        · simp
    · have gs := get_set_same (b := some (.cells [.int .i64 0, .int .i64 0, .int .i64 0, .slice none 0 0] false)) g8
      simp (disch := as_aux_lemma => first | omega | simp only [hDs] <;> omega | simp [isCell]) [hRs, takeMarks, resA, resAll, resOne, Value.cells, c1, hfl.len, hsl.len, show ¬ (nf : Int) = n by omega, fillA, g8, storeB_cells, setRange, zGrid, gs]
      exact bad _ 11 gs (But.set (by omega) e1) (raiseE_b c1 c2) (by decide)
  · have gs := get_set_same (b := some (.cells [.int .i64 0, .int .i64 0, .int .i64 0, .slice none 0 0] false)) g8
    simp (disch := as_aux_lemma => first | omega | simp only [hDs] <;> omega | simp [isCell]) [hRs, takeMarks, resA, resAll, resOne, Value.cells, c1, fillA, g8, storeB_cells, setRange, zGrid, gs]
    exact bad _ _ gs (But.set (by omega) e1) (raiseE_a c1) c1
end
end Go.Ab.Dike
namespace Go.Ab.Dike
open Go Go.Ab
section
variable {g : Nat} {rd : Option Nat} {T : List Value} {D : List Nat} {A : Hp} {Q : Ex → St → Prop} {V : Value → Hp → Prop}
end
end Go.Ab.Dike
namespace Go.Ab.Dike
open Go Go.Ab
section
variable {g : Nat} {A : Hp} {V : Value → Hp → Prop}
end
end Go.Ab.Dike
