/- DikeTimes: closing as it is in truth, whole. -/
import Derived.Test.YtlihoghjchbjlaaZ12
import Derived.Test.YtlihoghjchbjlaaZ11
set_option linter.unusedSimpArgs false
set_option linter.unusedVariables false
set_option linter.unusedSectionVars false
namespace Go.Ab.Dike
open Go Go.Ab
section
variable {g : Nat} {rd : Option Nat} {T : List Value} {D : List Nat} {A : Hp} {Q : Ex → St → Prop} {V : Value → Hp → Prop}
end
end Go.Ab.Dike
namespace Go.Ab.Dike
open Go Go.Ab
structure NarS (S P : Sec) : Prop where
  c : S.cl ≤ P.cl ∧ P.cl ≤ P.ch ∧ P.ch ≤ S.ch
  s : S.sl ≤ P.sl ∧ P.sl ≤ P.sh ∧ P.sh ≤ S.sh
  w : S.wl ≤ P.wl ∧ P.wl ≤ P.wh ∧ P.wh ≤ S.wh
  t : P.toe = S.toe
section
variable {g : Nat} {rd : Option Nat} {T : List Value} {D : List Nat} {A : Hp} {Q : Ex → St → Prop} {V : Value → Hp → Prop}
end
end Go.Ab.Dike
namespace Go.Ab.Dike
open Go Go.Ab
section
variable {g : Nat} {rd : Option Nat} {T : List Value} {D : List Nat} {A : Hp} {Q : Ex → St → Prop} {V : Value → Hp → Prop}
end
end Go.Ab.Dike
namespace Go.Ab.Dike
open Go Go.Ab
section
variable {g : Nat} {A : Hp} {V : Value → Hp → Prop}
end
end Go.Ab.Dike
namespace Go.Ab.Dike
open Go Go.Ab
end Go.Ab.Dike
namespace Go.Ab.Dike
open Go Go.Ab
structure JobT where
  lo : Int
  more : Int
  after : Int
  calm : Bool
  truth : Int
def jobC (j : JobT) : List Value := [.int .u16 j.lo, .int .u16 j.more, .int .u16 j.after, .bool j.calm, .int .u16 j.truth]
def JobOk (j : JobT) : Prop := (0 ≤ j.lo ∧ j.lo ≤ 65535) ∧ (0 ≤ j.more ∧ j.more ≤ 65535) ∧ (0 ≤ j.truth ∧ j.truth ≤ 65535)
def Jobs (A : Hp) (n : Nat) (J : Nat → JobT) (sl : Value) : Prop := ∃ cells, RdS A 5 n cells sl ∧ ∀ i, i < n → partA cells (i * 5) (some 5) = some (.agg ⟨jobC (J i)⟩)
theorem Jobs.ext {A A' : Hp} {n : Nat} {J : Nat → JobT} {sl : Value} (h : Jobs A n J sl) (he : Ext' A A') : Jobs A' n J sl := by
  obtain ⟨cells, h1, h2⟩ := h
  exact ⟨cells, he.rdS h1, h2⟩
theorem Jobs.len {A : Hp} {n : Nat} {J : Nat → JobT} {sl : Value} (h : Jobs A n J sl) : lenV sl = some (.int .i64 n) := by obtain ⟨_, h1, _⟩ := h; exact h1.len
theorem Jobs.at {A : Hp} {n i : Nat} {J : Nat → JobT} {sl : Value} (h : Jobs A n J sl) (hi : i < n) : ∃ x c ro cells, sl = .slice (some ⟨x, 0, some 5⟩) n c ∧ A.get x = some (.cells cells ro) ∧ ∀ j, j < n → partA cells (j * 5) (some 5) = some (.agg ⟨jobC (J j)⟩) := by
  obtain ⟨cells, h1, h2⟩ := h
  obtain ⟨x, c, ro, h3, h4⟩ := h1.at hi
  exact ⟨x, c, ro, cells, h3, h4, h2⟩
def shrV (a : Int) (k : Nat) : Int := a.fdiv (2 ^ (min k 16))
def andV (a : Int) : Int := IntKind.wrap .u16 (BitVec.ofInt (IntKind.bits .u16) a &&& BitVec.ofInt (IntKind.bits .u16) 1).toNat
def bitB (a : Int) (k : Nat) : Bool := decide (andV (shrV a k) = 1)
theorem binA_shr16 {a : Int} {k : Nat} : binA .shr (.int .u16 a) (.int .i64 k) = some (.int .u16 (shrV a k)) := by
  simp only [binA, shA]
  rw [if_neg (by omega)]
  rfl
theorem binA_and16 {a : Int} : binA .and (.int .u16 a) (.int .u16 1) = some (.int .u16 (andV a)) := rfl
theorem binA_eql16 {a b : Int} : binA .eql (.int .u16 a) (.int .u16 b) = some (.bool (decide (a = b))) := rfl
def aftL (a : Int) (i : Nat) : List Int := ((List.range i).filter (bitB a)).map fun k : Nat => (k : Int)
theorem aftL_succ (a : Int) (i : Nat) : aftL a (i + 1) = if bitB a i then aftL a i ++ [(i : Int)] else aftL a i := by
  unfold aftL
  rw [List.range_succ, List.filter_append, List.map_append]
  by_cases h : bitB a i = true <;> simp [h]
theorem aftL_length (a : Int) : ∀ i, (aftL a i).length ≤ i
  | 0 => by simp [aftL]
  | i + 1 => by
    have := aftL_length a i
    rw [aftL_succ]
    split
    · rw [List.length_append, List.length_singleton]; omega
    · omega
def chrOf (i : Nat) : UInt8 := UInt8.ofNat (97 + i)
def nmOf (i : Nat) : ByteArray := ⟨⟨[115, chrOf i]⟩⟩
theorem wr8 {n : Int} (h0 : 0 ≤ n) (h1 : n < 256) : wr .u8 n = n := by
  rw [wr_eq, IntKind.wrap_u8]; omega
theorem toStr_one {A : Hp} {i : Nat} {ro : Bool} (hi : i < 100) : toStrA (.slice (some ⟨A.n, 0, some 1⟩) 1 1) (A.push (.cells [.int .u8 (97 + (i : Int))] ro)) = some (.string ⟨⟨[chrOf i]⟩⟩) := by
  have h1 : (0 : Int) ≤ 97 + (i : Int) ∧ 97 + (i : Int) < 256 := by omega
  have h2 : (97 + (i : Int)).toNat = 97 + i := by omega
  simp only [toStrA, cellsAt, get_push_new]
  simp [u8sOf, h1, h2, chrOf]
theorem strAdd_nm {i : Nat} : strOpA .add (.string ⟨⟨[115]⟩⟩) (.string ⟨⟨[chrOf i]⟩⟩) = some (.string (nmOf i)) := rfl
def stp (J : Nat → JobT) (a b : Nat → Int) (i : Nat) : StepT := ⟨nmOf i, (aftL (J i).after i).length, aftL (J i).after i, a i, b i, (J i).calm, false, 0⟩
def jobS (J : Nat → JobT) : Nat → StepT := stp J (fun i => (J i).lo) fun i => (J i).lo + (J i).more
def Grow (N : Nat) (A : Hp) (n : Nat) (S : Nat → StepT) (sv : Value) : Prop := ∃ cells, AccS N A 7 cells sv ∧ cells.length = n * 7 ∧ ∀ j, j < n → SSep A cells sv j (S j)
theorem Grow.steps {N : Nat} {A : Hp} {n : Nat} {S : Nat → StepT} {sv : Value} (h : Grow N A n S sv) : Steps A n S sv := by
  obtain ⟨cells, h1, h2, h3⟩ := h
  refine ⟨cells, h1.rd h2 (by decide), fun i hi => ?_⟩
  obtain ⟨a, p1, p2, _⟩ := h3 i hi
  exact stepAt_of p1 p2
theorem Grow.mono {N : Nat} {A A' : Hp} {n : Nat} {S : Nat → StepT} {sv : Value} (h : Grow N A n S sv) (he : Ext' A A') : Grow N A' n S sv := by
  obtain ⟨cells, h1, h2, h3⟩ := h
  refine ⟨cells, h1.mono he.2, h2, fun j hj => ?_⟩
  obtain ⟨a, p1, p2, p3⟩ := h3 j hj
  exact ⟨a, p1, he.rdS p2, p3⟩
def body143 : ACode := (.seq
 (.ops [
oB 11 .lss 10 9])
 (.seq
 (.cond (.t 11)
 .skip
 (.exit 0))
 (.seq
 (.block 1
 (.seq
 (.ops [
oM 12 10,
oI 13 8 10 5,
oD 14 13 5,
oP 5 (.alloc [.int .u16 0, .int .u16 0, .int .u16 0, .bool false, .int .u16 0]),
oM 4 12,
oT 5 14 5])
 (.seq
 (.ops [
oM 15 4,
oP 16 (.bin .add (oK 97) (.t 15)),
oP 17 (.toInt .u8 (.t 16)),
oP 18 (.slit 1 1 [.int .u8 0] [(0, .t 17)]),
oP 19 (.toStr (.t 18)),
⟨some 20, none, [], .strOp .add (.k (.string ⟨⟨[115]⟩⟩)) (.t 19)⟩,
oF 21 5 0,
oL 22 21,
oP 23 (.toInt .i64 (.t 22)),
oF 24 5 0,
oL 25 24,
oP 26 (.toInt .i64 (.t 25)),
oF 27 5 1,
oL 28 27,
oP 29 (.toInt .i64 (.t 28)),
oB 30 .add 26 29,
oA 31 141 [.t 23, .t 30] true,
oF 32 5 3,
oL 33 32,
⟨some 34, none, [], .build [.string ⟨⟨[]⟩⟩, .slice none 0 0, .int .i64 0, .int .i64 0, .bool false, .bool false, .int .i64 0] [(0, 1, .t 20), (2, 2, .t 31), (4, 1, .t 33)]⟩,
⟨some 6, none, [], .alloc [.string ⟨⟨[]⟩⟩, .slice none 0 0, .int .i64 0, .int .i64 0, .bool false, .bool false, .int .i64 0]⟩,
oT 6 34 7])
 (.seq
 (.seq
 (.ops [
oM 35 4,
oP 36 (.move (oK 0))])
 (.block 2
 (.loop
 (.seq
 (.ops [
oB 37 .lss 36 35])
 (.seq
 (.cond (.t 37)
 .skip
 (.exit 2))
 (.seq
 (.block 3
 (.seq
 (.ops [
oM 38 36,
oM 7 38])
 (.seq
 (.ops [
oF 39 5 2,
oL 40 39,
oM 41 7,
oB 42 .shr 40 41,
oP 43 (.bin .and (.t 42) (.k (.int .u16 1))),
oP 44 (.bin .eql (.t 43) (.k (.int .u16 1)))])
 (.cond (.t 44)
 (.ops [
oF 45 6 1,
oL 46 45,
oM 47 7,
oP 48 (.slit 1 1 [.int .i64 0] [(0, .t 47)]),
oP 49 (.append (.t 46) (.t 48) 1 8),
oF 50 6 1,
oT 50 49 1])
 .skip))))
 (.ops [
oC 51 .add 36 1,
oM 36 51])))))))
 (.ops [
oM 52 3,
oD 53 6 7,
⟨some 54, none, [], .slit 1 7 [.string ⟨⟨[]⟩⟩, .slice none 0 0, .int .i64 0, .int .i64 0, .bool false, .bool false, .int .i64 0] [(0, .t 53)]⟩,
oP 55 (.append (.t 52) (.t 54) 7 72),
oM 3 55])))))
 (.ops [
oC 56 .add 10 1,
oM 10 56]))))
section
variable {g : Nat} {rd : Option Nat} {T : List Value} {D : List Nat} {A : Hp} {Q : Ex → St → Prop} {V : Value → Hp → Prop}
theorem loop143k {A0 : Hp} {X5 X6 i : Nat} {j : JobT} {u0 u2 u3 u4 u5 u6 : Value} (hi : i < 100) (h5 : A0.get X5 = some (.cells (jobC j) false)) (h56 : X5 ≠ X6) (h6 : X6 < A0.n) (hg : g ≤ X6)
    (hQ : ∀ T' A' a, KeepT [0, 3, 4, 5, 6, 8, 9, 10] T T' → AccS A0.n A' 1 (ints (aftL j.after i)) a → A'.get X6 = some (.cells [u0, a, u2, u3, u4, u5, u6] false) → A0.n ≤ A'.n → (∀ z, z < A0.n → z ≠ X6 → A'.get z = A0.get z) → Q (.exit 2) ⟨T', D, A'⟩)
    (hc : isCell u0 = true ∧ isCell u2 = true ∧ isCell u3 = true ∧ isCell u4 = true ∧ isCell u5 = true ∧ isCell u6 = true)
    (t5 : tget T 5 = .pointer (some ⟨X5, 0, none⟩)) (t6 : tget T 6 = .pointer (some ⟨X6, 0, none⟩)) :
    ∀ (r k : Nat) {T1 : List Value} {A : Hp} {a : Value}, k + r = i → KeepT [0, 3, 4, 5, 6, 8, 9, 10] T T1 → tget T1 35 = .int .i64 i → tget T1 36 = .int .i64 k → AccS A0.n A 1 (ints (aftL j.after k)) a → A.get X6 = some (.cells [u0, a, u2, u3, u4, u5, u6] false) → A0.n ≤ A.n → (∀ z, z < A0.n → z ≠ X6 → A.get z = A0.get z) → W AP KL g rd (.loop body143k) ⟨T1, D, A⟩ Q := by
  have h5n := Hp.lt_of_get h5
  intro r
  induction r with
  | zero =>
    intro k T1 A a hkr hk t35 t36 hacc hX hn ho
    have : k = i := by omega
    subst this
    rw [W_loop]
    simp (disch := as_aux_lemma => first | omega | simp only [hDs] <;> omega | simp [isCell]) [hRs, takeMarks, resA, resAll, resOne, Value.cells, body143k, t35, t36]
    exact hQ _ _ _ (hk.trans (by simp)) hacc hX hn ho
  | succ r ih =>
    intro k T1 A a hkr hk t35 t36 hacc hX hn ho
    have v5 := (hk.at 5 rfl).trans t5
    have v6 := (hk.at 6 rfl).trans t6
    have h5' := (ho X5 h5n h56).trans h5
    have hX6n := Hp.lt_of_get hX
    have e3 := wrId (n := (k : Int) + 1) (by omega) (by omega)
    rw [W_loop]
    cases hb : bitB j.after k with
    | false =>
      have hb' : ¬ andV (shrV j.after k) = 1 := by simpa [bitB] using hb
      simp (disch := as_aux_lemma => first | omega | simp only [hDs] <;> omega | simp [isCell]) [hRs, takeMarks, resA, resAll, resOne, Value.cells, body143k, t35, t36, show ((k : Int) < i) by omega, v5, h5', jobC, binA_shr16, binA_and16, binA_eql16, hb']
      refine ih (k + 1) (a := a) (by omega) (hk.trans (by simp)) (by simp [t35]) (by simp [e3]) ?_ hX hn ho
      rw [aftL_succ, hb, if_neg (by decide)]; exact hacc
    | true =>
      have hb' : andV (shrV j.after k) = 1 := by simpa [bitB] using hb
      obtain ⟨a', A2, ha, hacc', hk2, hn2, hbl⟩ := add_keep (g := g) (bytes := 8) (n := (aftL j.after k).length) (ro := false) (new := [.int .i64 (k : Int)]) hacc (by omega) hn rfl (by decide) rfl (by simp) (by have := aftL_length j.after k; unfold room; omega)
      have hX2 := (hk2 X6 hX6n (fun h => by have := (hacc.blk_ge h).1; omega)).trans hX
      have hX2n := Hp.lt_of_get hX2
      obtain ⟨p1, q1, r1, rfl⟩ := hacc'.isSlice
      have gs : ∀ b', (A2.set X6 (some b')).get X6 = some b' := fun b' => get_set_same hX2
      simp (disch := as_aux_lemma => first | omega | simp only [hDs] <;> omega | simp [isCell]) [hRs, takeMarks, resA, resAll, resOne, Value.cells, body143k, t35, t36, show ((k : Int) < i) by omega, v5, v6, h5', hX, jobC, binA_shr16, binA_and16, binA_eql16, hb', ha, slitA, fillA, setRange, hX2, storeB_cells, hc]
      refine ih (k + 1) (a := .slice p1 q1 r1) (by omega) (hk.trans (by simp)) (by simp [t35]) (by simp [e3]) ?_ (by rw [gs]) (by simp; omega) ?_
      · rw [aftL_succ, hb, if_pos rfl, ints_append]
        exact AccS.keepB hacc' fun z hz => get_set_ne hX2n (by have := (hacc'.blk_ge hz).1; omega)
      · intro z hz hz6
        rw [get_set_ne hX2n hz6, hk2 z (by omega) (fun h => by have := (hacc.blk_ge h).1; omega)]
        exact ho z hz hz6
theorem loop143 {A0 : Hp} {n : Nat} {J : Nat → JobT} {sl : Value} (hsl : Jobs A0 n J sl) (hn : n ≤ 20) (hJ : ∀ i, JobOk (J i)) (hg : g ≤ A0.n)
    (hQ : ∀ T' A' sv, tget T' 3 = sv → Grow A0.n A' n (jobS J) sv → Ext' A0 A' → Q (.exit 0) ⟨T', D, A'⟩) :
    ∀ (r i : Nat) {T1 : List Value} {A : Hp} {sv : Value}, i + r = n → tget T1 3 = sv → tget T1 8 = sl → tget T1 9 = .int .i64 n → tget T1 10 = .int .i64 i → Grow A0.n A i (jobS J) sv → Ext' A0 A → W AP KL g rd (.loop body143) ⟨T1, D, A⟩ Q := by
  intro r
  induction r with
  | zero =>
    intro i T1 A sv hir t3 t8 t9 t10 hG he
    have : i = n := by omega
    subst this
    rw [W_loop]
    simp (disch := as_aux_lemma => first | omega | simp only [hDs] <;> omega | simp [isCell]) [hRs, takeMarks, resA, resAll, resOne, Value.cells, body143, t9, t10]
    exact hQ _ _ sv (by simp [t3]) hG he
  | succ r ih =>
    intro i T1 A sv hir t3 t8 t9 t10 hG he
    obtain ⟨x, c, ro, row, rfl, hx, hat⟩ := (hsl.ext he).at (i := i) (by omega)
    have hA0 := he.1
    obtain ⟨j, hj⟩ : ∃ j, j = J i := ⟨_, rfl⟩
    have hp := hat i (by omega)
    rw [← hj] at hp
    obtain ⟨⟨l0, l1⟩, ⟨m0, m1⟩, _⟩ : JobOk j := hj ▸ hJ i
    have e1 := wrId (n := (i : Int) + 1) (by omega) (by omega)
    have e2 := wrId (n := 97 + (i : Int)) (by omega) (by omega)
    have e3 := wr8 (n := 97 + (i : Int)) (by omega) (by omega)
    have e4 := wrId (n := j.lo) (by omega) (by omega)
    have e5 := wrId (n := j.more) (by omega) (by omega)
    have e6 := wrId (n := j.lo + j.more) (by omega) (by omega)
    obtain ⟨B, hB⟩ : ∃ B, B = A.push (.cells (jobC j) false) := ⟨_, rfl⟩
    have hBn : B.n = A.n + 1 := by rw [hB]; rfl
    have eB : Ext' A B := by rw [hB]; exact Ext'.push A _
    have hX5 : B.get A.n = some (.cells (jobC j) false) := by rw [hB, get_push_new]
    have hX5' := hX5
    unfold jobC at hX5'
    have hB' : A.push (.cells [.int .u16 j.lo, .int .u16 j.more, .int .u16 j.after, .bool j.calm, .int .u16 j.truth] false) = B := hB.symm
    have eC : Ext' B (B.push (.cells [.int .u8 (97 + (i : Int))] false)) := Ext'.push B _
    have hX5c := eC.get hX5'
    have ts := toStr_one (A := B) (i := i) (ro := false) (by omega)
    have nm := strAdd_nm (i := i)
    rw [W_loop]
    simp (disch := as_aux_lemma => first | omega | simp only [hDs] <;> omega | simp [isCell]) [hRs, takeMarks, resA, resAll, resOne, Value.cells, body143, t3, t8, t9, t10, show ((i : Int) < n) by omega, idxSA_ok, hx, hp, jobC, storeB_cells, setRange, set_push_eq, hB', hX5', hX5c, e2, e3, toIntA, slitA, fillA, ts, nm, e4, e5, e6]
    refine w141 (by simp only [Hp.n_push]; omega) fun A1 ea => ?_
    have na := ea.1
    simp only [Hp.n_push] at na
    have eA1 := eC.trans ea
    have hX51 := eA1.get hX5'
    have hX51n := Hp.lt_of_get hX51
    simp (disch := as_aux_lemma => first | omega | simp only [hDs] <;> omega | simp [isCell]) [hRs, takeMarks, resA, resAll, resOne, Value.cells, hX51, fillA, setRange, storeB_cells, set_push_eq]
    obtain ⟨A2, hA2⟩ : ∃ A2, A2 = A1.push (.cells [.string (nmOf i), .slice none 0 0, .int .i64 j.lo, .int .i64 (j.lo + j.more), .bool j.calm, .bool false, .int .i64 0] false) := ⟨_, rfl⟩
    rw [← hA2]
    have e2' : Ext' A1 A2 := by rw [hA2]; exact Ext'.push A1 _
    have hA2n : A2.n = A1.n + 1 := by rw [hA2]; rfl
    have hX62 : A2.get A1.n = some (.cells [.string (nmOf i), .slice none 0 0, .int .i64 j.lo, .int .i64 (j.lo + j.more), .bool j.calm, .bool false, .int .i64 0] false) := by rw [hA2, get_push_new]
    have hX52 := (eA1.trans e2').get hX5
    have e02 := eB.trans (eA1.trans e2')
    refine loop143k (A0 := A2) (X5 := A.n) (X6 := A1.n) (i := i) (j := j) (by omega) hX52 (by omega) (by omega) (by omega) ?_ ⟨rfl, rfl, rfl, rfl, rfl, rfl⟩ (T := _) ?_ ?_ i 0 (a := .slice none 0 0) (by omega) (fun _ _ => rfl) (by simp) (by simp) AccS.nil hX62 (Nat.le_refl _) (fun _ _ _ => rfl)
    · intro T3 A3 a k3 hacc hX6 hn3 ho3
      have v3 := k3.at 3 rfl
      have v6 := k3.at 6 rfl
      have v8 := k3.at 8 rfl
      have v9 := k3.at 9 rfl
      have v10 := k3.at 10 rfl
      simp [t3, t8, t9, t10] at v3 v6 v8 v9 v10
      obtain ⟨cells, g1, g2, g3⟩ := hG
      have hsvn : ∀ z, blkOf sv = some z → z < A.n := fun z hz => (g1.blk_ge hz).2
      have ho03 : ∀ z, z < A.n → A3.get z = A.get z := fun z hz => by rw [ho3 z (by omega) (by omega), e02.2 z hz]
      have s : StepT := ⟨nmOf i, (aftL j.after i).length, aftL j.after i, j.lo, j.lo + j.more, j.calm, false, 0⟩
      have hn03 : A.n ≤ A3.n := by have := e02.1; omega
      obtain ⟨sv', A4, ha4, hacc4, hk4, hn4, hb4⟩ := add_keep (g := g) (bytes := 72) (n := i) (ro := false) (new := stepC a (jobS J i)) (g1.mono ho03) hg (by omega) rfl (by decide) (by obtain ⟨_, _, _, rfl⟩ := hacc.isSlice; rfl) g2 (by unfold room; omega)
      have ra : RdS A3 1 (aftL j.after i).length (ints (aftL j.after i)) a := hacc.rd (by simp) (by decide)
      have han : ∀ z, blkOf a = some z → A2.n ≤ z := fun z hz => (hacc.blk_ge hz).1
      have ha4' := ha4
      simp only [stepC, jobS, stp, ← hj] at ha4'
      obtain ⟨pa, qa, ca, rfl⟩ := hacc.isSlice
      have hpp : partA [.string (nmOf i), .slice pa qa ca, .int .i64 j.lo, .int .i64 (j.lo + j.more), .bool j.calm, .bool false, .int .i64 0] 0 (some 7) = some (.agg ⟨[.string (nmOf i), .slice pa qa ca, .int .i64 j.lo, .int .i64 (j.lo + j.more), .bool j.calm, .bool false, .int .i64 0]⟩) := rfl
      simp (disch := as_aux_lemma => first | omega | simp only [hDs] <;> omega | simp [isCell]) [hRs, takeMarks, resA, resAll, resOne, Value.cells, v3, v6, v8, v9, v10, hX6, hpp, slitA, fillA, setRange, ha4']
      refine ih (i + 1) (sv := sv') (by omega) (by simp) (by simp [v8]) (by simp [v9]) (by simp [e1]) ⟨_, hacc4, by simp [g2, stepC]; omega, fun q hq => ?_⟩ ⟨by omega, fun z hz => ?_⟩
      · have hsv : ∀ z, blkOf sv' = some z → A3.n ≤ z := fun z hz => by rw [hb4] at hz; cases hz; omega
        by_cases hqi : q = i
        · subst hqi
          have hne : ∀ z, blkOf (.slice pa qa ca) = some z → blkOf sv ≠ some z := fun z hz h => by have := han z hz; have := hsvn z h; have := e02.1; omega
          refine (show SSep _ _ sv' q (jobS J q) from ⟨.slice pa qa ca, fun o v ho => ?_, ?_, fun z hz h => ?_⟩)
          · rw [List.getElem?_append_right (by omega), show q * 7 + o - cells.length = o by omega]; exact ho
          · have : jobS J q = ⟨nmOf q, (aftL j.after q).length, aftL j.after q, j.lo, j.lo + j.more, j.calm, false, 0⟩ := by simp [jobS, stp, hj]
            rw [this]
            exact ra.keepB fun z hz => hk4 z (ra.blk_lt hz) (hne z hz)
          · have := hsv z h; have := ra.blk_lt hz; omega
        · have hS := g3 q (by omega)
          obtain ⟨a', h1, h2, h3⟩ := hS
          refine SSep.next (A := A3) ⟨a', h1, h2.keepB fun z hz => ho03 z (h2.blk_lt hz), h3⟩ (fun z hz hzs => hk4 z hz hzs) hsv
      · rw [hk4 z (by omega) (fun h => by have := (g1.blk_ge h).1; omega), ho03 z (by omega), he.2 z hz]
    · simp
    · simp
theorem w143 {n : Nat} {J : Nat → JobT} {sl : Value} (hsl : Jobs A n J sl) (hn : n ≤ 20) (hJ : ∀ i, JobOk (J i)) (hg : g ≤ A.n) (hV : ∀ A' sv, Grow A.n A' n (jobS J) sv → Ext' A A' → V sv A') : WF AP KL g 143 [sl] A V := by
  rw [WF_body (show KL 143 = none from rfl) (show AP 143 = some F143 from rfl)]
  simp (disch := as_aux_lemma => first | omega | simp only [hDs] <;> omega | simp [isCell]) [hRs, takeMarks, resA, resAll, resOne, Value.cells, F143, hsl.len]
  refine loop143 hsl hn hJ hg ?_ n 0 (sv := .slice none 0 0) (by omega) (by simp) (by simp) (by simp) (by simp) ⟨[], AccS.nil, rfl, fun j hj => absurd hj (by omega)⟩ (Ext'.refl _)
  intro T' A' sv t3 hG he
  simp (disch := as_aux_lemma => first | omega | simp only [hDs] <;> omega | simp [isCell]) [hRs, takeMarks, resA, resAll, resOne, Value.cells, t3]
  exact hV A' sv hG he
end
end Go.Ab.Dike
namespace Go.Ab.Dike
open Go Go.Ab
def winT (zs : List Int) : Nat → Int
  | 0 => 0
  | i + 1 => winT zs i + (gi zs (i * 2) + gi zs (i * 2 + 1) + 1)
def winL (zs : List Int) : Nat → List Int
  | 0 => []
  | i + 1 => winL zs i ++ [winT zs i + gi zs (i * 2), winT zs i + gi zs (i * 2) + gi zs (i * 2 + 1)]
theorem winL_length (zs : List Int) : ∀ i, (winL zs i).length = i * 2
  | 0 => rfl
  | i + 1 => by simp [winL, winL_length zs i]; omega
theorem winT_bd {zs : List Int} (hz : ∀ j, 0 ≤ gi zs j ∧ gi zs j ≤ 65535) : ∀ i : Nat, 0 ≤ winT zs i ∧ winT zs i ≤ i * 131071
  | 0 => ⟨Int.le_refl _, by simp [winT]⟩
  | i + 1 => by
    have := winT_bd hz i
    have h1 := hz (i * 2)
    have h2 := hz (i * 2 + 1)
    unfold winT
    omega
theorem kints_two {k : IntKind} {l : List Int} {o : Nat} (h : o + 2 ≤ l.length) : partA (kints k l) o (some 2) = some (.agg ⟨[.int k (gi l o), .int k (gi l (o + 1))]⟩) := by
  refine partA_of (vs := [.int k (gi l o), .int k (gi l (o + 1))]) (fun j v hv => ?_) (by simp)
  match j with
  | 0 => rw [← (show _ = some v from hv)]; exact kints_get (l := l) (o := o) (by omega)
  | 1 => rw [← (show _ = some v from hv)]; exact kints_get (l := l) (o := o + 1) (by omega)
  | j + 2 => cases hv
section
variable {g : Nat} {rd : Option Nat} {T : List Value} {D : List Nat} {A : Hp} {Q : Ex → St → Prop} {V : Value → Hp → Prop}
theorem loop144 {A0 : Hp} {n : Nat} {zs : List Int} {sl : Value} (hsl : RdS A0 2 n (kints .u16 zs) sl) (hn : n ≤ 1000) (hz : ∀ j, 0 ≤ gi zs j ∧ gi zs j ≤ 65535) (hg : g ≤ A0.n)
    (hQ : ∀ T' A' sv, tget T' 4 = sv → AccS A0.n A' 2 (ints (winL zs n)) sv → Ext' A0 A' → Q (.exit 0) ⟨T', D, A'⟩) :
    ∀ (r i : Nat) {T1 : List Value} {A : Hp} {sv : Value}, i + r = n → tget T1 3 = .int .i64 (winT zs i) → tget T1 4 = sv → tget T1 7 = sl → tget T1 8 = .int .i64 n → tget T1 9 = .int .i64 i → AccS A0.n A 2 (ints (winL zs i)) sv → Ext' A0 A → W AP KL g rd (.loop body144) ⟨T1, D, A⟩ Q := by
  have hl := hsl.1
  rw [kints_length] at hl
  intro r
  induction r with
  | zero =>
    intro i T1 A sv hir t3 t4 t7 t8 t9 hacc he
    have : i = n := by omega
    subst this
    rw [W_loop]
    simp (disch := as_aux_lemma => first | omega | simp only [hDs] <;> omega | simp [isCell]) [hRs, takeMarks, resA, resAll, resOne, Value.cells, body144, t8, t9]
    exact hQ _ _ sv (by simp [t4]) hacc he
  | succ r ih =>
    intro i T1 A sv hir t3 t4 t7 t8 t9 hacc he
    obtain ⟨x, c, ro, rfl, hx⟩ := (he.rdS hsl).at (i := i) (by omega)
    have hA0 := he.1
    have bT := winT_bd hz i
    have b1 := hz (i * 2)
    have b2 := hz (i * 2 + 1)
    obtain ⟨a, ha⟩ : ∃ a, a = gi zs (i * 2) := ⟨_, rfl⟩
    obtain ⟨b, hb⟩ : ∃ b, b = gi zs (i * 2 + 1) := ⟨_, rfl⟩
    obtain ⟨t, ht⟩ : ∃ t, t = winT zs i := ⟨_, rfl⟩
    have hp : partA (kints .u16 zs) (i * 2) (some 2) = some (.agg ⟨[.int .u16 a, .int .u16 b]⟩) := by rw [ha, hb]; exact kints_two (by omega)
    rw [← ha] at b1
    rw [← hb] at b2
    rw [← ht] at t3 bT
    have e1 := wrId (n := (i : Int) + 1) (by omega) (by omega)
    have e2 := wrId (n := a) (by omega) (by omega)
    have e3 := wrId (n := b) (by omega) (by omega)
    have e4 := wrId (n := t + a) (by omega) (by omega)
    have e5 := wrId (n := t + a + b) (by omega) (by omega)
    have e6 := wrId (n := a + b) (by omega) (by omega)
    have e7 := wrId (n := a + b + 1) (by omega) (by omega)
    have e8 := wrId (n := t + (a + b + 1)) (by omega) (by omega)
    have hw1 : winT zs (i + 1) = t + (a + b + 1) := by rw [winT, ← ht, ← ha, ← hb]
    have hw2 : winL zs (i + 1) = winL zs i ++ [t + a, t + a + b] := by rw [winL, ← ht, ← ha, ← hb]
    obtain ⟨B, hB⟩ : ∃ B, B = A.push (.cells [.int .u16 a, .int .u16 b] false) := ⟨_, rfl⟩
    have hBn : B.n = A.n + 1 := by rw [hB]; rfl
    have eB : Ext' A B := by rw [hB]; exact Ext'.push A _
    have hX6 : B.get A.n = some (.cells [.int .u16 a, .int .u16 b] false) := by rw [hB, get_push_new]
    rw [W_loop]
    simp (disch := as_aux_lemma => first | omega | simp only [hDs] <;> omega | simp [isCell]) [hRs, takeMarks, resA, resAll, resOne, Value.cells, body144, t3, t4, t7, t8, t9, show ((i : Int) < n) by omega, idxSA_ok, hx, hp, storeB_cells, setRange, set_push_eq, ← hB, hX6, idxAA_ok, toIntA, e2, e3, e4, e5]
    refine w141 (by omega) fun A1 ea => ?_
    have na := ea.1
    have hX61 := ea.get hX6
    have e0 := he.trans (eB.trans ea)
    obtain ⟨sv', A2, h2, hacc', hk2, hn2, hb2⟩ := add_keep (g := g) (bytes := 16) (n := i) (ro := false) (new := [.int .i64 (t + a), .int .i64 (t + a + b)]) (hacc.mono (eB.trans ea).2) hg e0.1 rfl (by decide) rfl (by rw [ints_length, winL_length]) (by unfold room; omega)
    have hX62 := (hk2 A.n (by omega) (fun h => by have := (hacc.blk_ge h).2; omega)).trans hX61
    simp (disch := as_aux_lemma => first | omega | simp only [hDs] <;> omega | simp [isCell]) [hRs, takeMarks, resA, resAll, resOne, Value.cells, t3, t9, slitA, fillA, setRange, h2, hX62, idxAA_ok, toIntA, e2, e3, e6, e7, e8]
    refine ih (i + 1) (sv := sv') (by omega) (by simp [hw1]) (by simp) (by simp [t7]) (by simp [t8]) (by simp [e1]) (by rw [hw2, ints_append]; exact hacc') ⟨by have := e0.1; omega, fun z hz => ?_⟩
    rw [hk2 z (by have := e0.1; omega) (fun h => by have := (hacc.blk_ge h).1; omega), e0.2 z hz]
theorem w144 {n : Nat} {zs : List Int} {sl : Value} (hsl : RdS A 2 n (kints .u16 zs) sl) (hn : n ≤ 1000) (hz : ∀ j, 0 ≤ gi zs j ∧ gi zs j ≤ 65535) (hg : g ≤ A.n) (hV : ∀ A' sv, AccS A.n A' 2 (ints (winL zs n)) sv → Ext' A A' → V sv A') : WF AP KL g 144 [sl] A V := by
  rw [WF_body (show KL 144 = none from rfl) (show AP 144 = some F144 from rfl)]
  simp (disch := as_aux_lemma => first | omega | simp only [hDs] <;> omega | simp [isCell]) [hRs, takeMarks, resA, resAll, resOne, Value.cells, F144, hsl.len]
  refine loop144 hsl hn hz hg ?_ n 0 (sv := .slice none 0 0) (by omega) (by simp [winT]) (by simp) (by simp) (by simp) (by simp) AccS.nil (Ext'.refl _)
  intro T' A' sv t4 hacc he
  simp (disch := as_aux_lemma => first | omega | simp only [hDs] <;> omega | simp [isCell]) [hRs, takeMarks, resA, resAll, resOne, Value.cells, t4]
  exact hV A' sv hacc he
end
end Go.Ab.Dike
namespace Go.Ab.Dike
open Go Go.Ab
theorem firstE_zero {f : Nat → Int} : ∀ {n : Nat}, (∀ i, i < n → f i = 0) → firstE f n = 0
  | 0, _ => rfl
  | n + 1, h => firstE_next (firstE_zero fun i hi => h i (by omega)) (h n (by omega))
theorem gi_lft {l m : List Int} {o : Nat} (h : o < l.length) : gi (l ++ m) o = gi l o := by
  unfold gi
  rw [List.getD_eq_getElem?_getD, List.getD_eq_getElem?_getD, List.getElem?_append_left h]
theorem gi_rgt {l m : List Int} {o d : Nat} (h : o = l.length + d) : gi (l ++ m) o = gi m d := by
  unfold gi
  rw [List.getD_eq_getElem?_getD, List.getD_eq_getElem?_getD, List.getElem?_append_right (by omega), show o - l.length = d by omega]
theorem gi_out {l : List Int} {o : Nat} (h : l.length ≤ o) : gi l o = 0 := by
  unfold gi
  rw [List.getD_eq_getElem?_getD, List.getElem?_eq_none h]; rfl
theorem aftL_mem {a v : Int} {i : Nat} (h : v ∈ aftL a i) : 0 ≤ v ∧ v < i := by
  obtain ⟨k, hk, rfl⟩ := List.mem_map.1 h
  have := List.mem_range.1 (List.mem_filter.1 hk).1
  omega
theorem aftL_sorted (a : Int) (i : Nat) : (aftL a i).Pairwise (· < ·) := by
  unfold aftL
  refine List.Pairwise.map _ (R := fun x y : Nat => x < y) (fun x y h => by omega) ?_
  exact List.Pairwise.filter _ List.pairwise_lt_range
theorem aftL_at {a : Int} {i k : Nat} (h : k < (aftL a i).length) : (0 ≤ gi (aftL a i) k ∧ gi (aftL a i) k < i) ∧ gi (aftL a i) k ∉ (aftL a i).take k := by
  rw [gi_eq h]
  refine ⟨aftL_mem (List.getElem_mem h), fun hm => ?_⟩
  obtain ⟨j, hj, e⟩ := List.getElem_of_mem hm
  rw [List.getElem_take] at e
  have hjk : j < k := by have := hj; rw [List.length_take] at this; omega
  have := (List.pairwise_iff_getElem.1 (aftL_sorted a i)) j k (by omega) h hjk
  omega
theorem nm_ok : ∀ i, i < 10 → nameB (nmOf i) = true := by
  intro i hi
  have : i = 0 ∨ i = 1 ∨ i = 2 ∨ i = 3 ∨ i = 4 ∨ i = 5 ∨ i = 6 ∨ i = 7 ∨ i = 8 ∨ i = 9 := by omega
  rcases this with h | h | h | h | h | h | h | h | h | h <;> subst h <;> decide
theorem nm_ne {i k : Nat} (hi : i < 10) (hk : k < i) : strEq (nmOf k) (nmOf i) = false := by
  rw [Bool.eq_false_iff]
  intro h
  rw [strEq_iff] at h
  have h2 : chrOf k = chrOf i := by
    unfold nmOf at h
    injection h with h
    injection h with h
    injection h with _ h
    injection h
  have h3 := congrArg UInt8.toNat h2
  simp [chrOf] at h3
  omega
structure TimesOk (n : Nat) (a b : Nat → Int) (p q : Int) : Prop where
  n10 : n ≤ 10
  ab : ∀ i, 0 ≤ a i ∧ a i ≤ b i ∧ b i ≤ 100000000
  pq : 0 ≤ p ∧ p ≤ q ∧ q ≤ 1000000000
structure WinOk (ws : List Int) (nw : Nat) : Prop where
  bd : ∀ i, i < nw → 0 ≤ gi ws (i * 2) ∧ gi ws (i * 2) ≤ gi ws (i * 2 + 1) ∧ gi ws (i * 2 + 1) ≤ 1000000000
  ord : ∀ i j, i < j → j < nw → gi ws (i * 2 + 1) < gi ws (j * 2)
theorem steps_ok {n : Nat} {J : Nat → JobT} {a b : Nat → Int} {p q : Int} (h : TimesOk n a b p q) : stepsE n (stp J a b) = 0 := by
  have hn := h.n10
  unfold stepsE
  rw [if_neg (by omega)]
  refine firstE_zero fun i hi => ?_
  have hab := h.ab i
  have h1 : nameB (stp J a b i).name = true := nm_ok i (by omega)
  have h2 : sameN (stp J a b) i = false := by
    unfold sameN
    rw [Bool.eq_false_iff]
    intro h'
    obtain ⟨k, hk, he⟩ := List.any_eq_true.1 h'
    have := nm_ne (i := i) (k := k) (by omega) (List.mem_range.1 hk)
    rw [show strEq (stp J a b k).name (stp J a b i).name = strEq (nmOf k) (nmOf i) from rfl, this] at he
    cases he
  have h3 : firstE (aftE i (stp J a b i).al) (stp J a b i).an = 0 := by
    refine firstE_zero fun k hk => ?_
    have := aftL_at (a := (J i).after) (i := i) (k := k) hk
    show aftE i (aftL (J i).after i) k = 0
    unfold aftE
    rw [if_neg (by omega), if_neg this.2]
  rw [stpE_d h1 h2 h3]
  unfold lastE
  rw [if_neg]
  rintro (h' | h' | h')
  · have : validB (a i) (b i) 0 100000000 = true := validB_iff.2 (by omega)
    rw [show (stp J a b i).tl = a i from rfl, show (stp J a b i).th = b i from rfl, this] at h'
    cases h'
  · exact absurd h' (by show ¬ (0 : Int) < 0; decide)
  · exact absurd h' (by show ¬ (100 : Int) < 0; decide)
theorem win_ok {ws : List Int} {nw : Nat} (h : WinOk ws nw) : firstE (winE ws) nw = 0 :=
  firstE_zero fun i hi => by
    have h1 := h.bd i hi
    refine winE_c (validB_iff.2 (by omega)) fun hc => ?_
    have := h.ord (i - 1) i (by omega) hi
    omega
theorem close_ok {n nw : Nat} {J : Nat → JobT} {a b : Nat → Int} {p q : Int} {ws : List Int} (h : TimesOk n a b p q) (hw : WinOk ws nw) (hnw : nw ≤ 1000) : closeE n (stp J a b) (p, q) nw ws = 0 := by
  have h1 := h.pq
  rw [closeE_d (steps_ok h) (validB_iff.2 (by show p ≤ q ∧ 0 ≤ p ∧ q ≤ 1000000000; omega)) (by omega)]
  exact win_ok hw
theorem winL_at {zs : List Int} : ∀ {n i : Nat}, i < n → gi (winL zs n) (i * 2) = winT zs i + gi zs (i * 2) ∧ gi (winL zs n) (i * 2 + 1) = winT zs i + gi zs (i * 2) + gi zs (i * 2 + 1)
  | 0, _, h => absurd h (by omega)
  | n + 1, i, h => by
    have hl := winL_length zs n
    by_cases hi : i = n
    · subst hi
      exact ⟨gi_rgt (d := 0) (by omega), gi_rgt (d := 1) (by omega)⟩
    · have := winL_at (zs := zs) (n := n) (i := i) (by omega)
      exact ⟨(gi_lft (by omega)).trans this.1, (gi_lft (by omega)).trans this.2⟩
theorem winT_succ (zs : List Int) (j : Nat) : winT zs (j + 1) = winT zs j + (gi zs (j * 2) + gi zs (j * 2 + 1) + 1) := rfl
theorem winT_step {zs : List Int} (hz : ∀ j, 0 ≤ gi zs j ∧ gi zs j ≤ 65535) {i : Nat} : ∀ {j : Nat}, i < j → winT zs i + gi zs (i * 2) + gi zs (i * 2 + 1) < winT zs j
  | 0, h => absurd h (by omega)
  | j + 1, h => by
    have h1 := hz (j * 2)
    have h2 := hz (j * 2 + 1)
    by_cases hi : i = j
    · subst hi; rw [winT_succ]; omega
    · have := winT_step hz (i := i) (j := j) (by omega)
      rw [winT_succ]; omega
theorem winOk_L {zs : List Int} {n : Nat} (hn : n ≤ 100) (hz : ∀ j, 0 ≤ gi zs j ∧ gi zs j ≤ 65535) : WinOk (winL zs n) n := by
  refine ⟨fun i hi => ?_, fun i j hij hj => ?_⟩
  · obtain ⟨e1, e2⟩ := winL_at (zs := zs) hi
    rw [e1, e2]
    have h1 := hz (i * 2)
    have h2 := hz (i * 2 + 1)
    have := winT_bd hz i
    omega
  · obtain ⟨_, e2⟩ := winL_at (zs := zs) (show i < n by omega)
    obtain ⟨e1, _⟩ := winL_at (zs := zs) hj
    rw [e1, e2]
    have h1 := hz (j * 2)
    have := winT_step hz hij
    omega
def wDrop (ws : List Int) (d : Nat) : List Int := ws.take (d * 2) ++ ws.drop ((d + 1) * 2)
theorem wDrop_at {ws : List Int} {nw d o : Nat} (hl : ws.length = nw * 2) (hd : d < nw) : gi (wDrop ws d) o = if o < d * 2 then gi ws o else gi ws (o + 2) := by
  have ht : (ws.take (d * 2)).length = d * 2 := by rw [List.length_take]; omega
  unfold wDrop
  split
  · rename_i h
    rw [gi_lft (by omega)]
    unfold gi
    rw [List.getD_eq_getElem?_getD, List.getD_eq_getElem?_getD, List.getElem?_take, if_pos h]
  · rename_i h
    rw [gi_rgt (d := o - d * 2) (by omega)]
    unfold gi
    rw [List.getD_eq_getElem?_getD, List.getD_eq_getElem?_getD, List.getElem?_drop, show (d + 1) * 2 + (o - d * 2) = o + 2 by omega]
theorem wDrop_sub {ws : List Int} {nw d : Nat} (hl : ws.length = nw * 2) (hd : d < nw) {j : Nat} (hj : j < nw - 1) : ∃ i, i < nw ∧ i = (if j < d then j else j + 1) ∧ gi ws (i * 2) = gi (wDrop ws d) (j * 2) ∧ gi ws (i * 2 + 1) = gi (wDrop ws d) (j * 2 + 1) := by
  rw [wDrop_at hl hd, wDrop_at hl hd]
  by_cases h : j < d
  · exact ⟨j, by omega, by rw [if_pos h], by rw [if_pos (by omega)], by rw [if_pos (by omega)]⟩
  · exact ⟨j + 1, by omega, by rw [if_neg h], by rw [if_neg (by omega), show j * 2 + 2 = (j + 1) * 2 by omega], by rw [if_neg (by omega), show j * 2 + 1 + 2 = (j + 1) * 2 + 1 by omega]⟩
theorem winOk_drop {ws : List Int} {nw d : Nat} (h : WinOk ws nw) (hl : ws.length = nw * 2) (hd : d < nw) : WinOk (wDrop ws d) (nw - 1) := by
  refine ⟨fun j hj => ?_, fun j k hjk hk => ?_⟩
  · obtain ⟨i, hi, _, e1, e2⟩ := wDrop_sub hl hd hj
    rw [← e1, ← e2]
    exact h.bd i hi
  · obtain ⟨i, hi, ei, e1, e2⟩ := wDrop_sub hl hd (show j < nw - 1 by omega)
    obtain ⟨i', hi', ei', e1', e2'⟩ := wDrop_sub hl hd hk
    rw [← e2, ← e1']
    refine h.ord i i' ?_ hi'
    rw [ei, ei']
    split <;> split <;> omega
def rd1 (E : List Int) (b : Int) (al : List Int) : Nat → Int
  | 0 => b
  | k + 1 => max (if k = 0 then gi E (gi al k).toNat else rd1 E b al k) (gi E (gi al k).toNat)
def nextE (E : List Int) (j : JobT) (i : Nat) (t b : Int) (ws : List Int) (nw : Nat) : Int := endV (rd1 E b (aftL j.after i) (aftL j.after i).length) t j.calm ws nw
def en1 (J : Nat → JobT) (t : Nat → Int) (b : Int) (ws : List Int) (nw : Nat) : Nat → List Int
  | 0 => []
  | i + 1 => en1 J t b ws nw i ++ [nextE (en1 J t b ws nw i) (J i) i (t i) b ws nw]
def al1 (J : Nat → JobT) (t : Nat → Int) (b : Int) (ws : List Int) (nw : Nat) : Nat → Int
  | 0 => b
  | i + 1 => max (al1 J t b ws nw i) (nextE (en1 J t b ws nw i) (J i) i (t i) b ws nw)
theorem en1_length (J : Nat → JobT) (t : Nat → Int) (b : Int) (ws : List Int) (nw : Nat) : ∀ i, (en1 J t b ws nw i).length = i
  | 0 => rfl
  | i + 1 => by simp [en1, en1_length J t b ws nw i]
theorem readyS_two {E L M : List Int} {b : Int × Int} {al : List Int} (h1 : ∀ j, gi E (j * 2) = gi L j) (h2 : ∀ j, gi E (j * 2 + 1) = gi M j) : ∀ k, (readyS E b al k).1 = rd1 L b.1 al k ∧ (readyS E b al k).2 = rd1 M b.2 al k
  | 0 => ⟨rfl, rfl⟩
  | k + 1 => by
    obtain ⟨e1, e2⟩ := readyS_two (b := b) (al := al) h1 h2 k
    unfold readyS rd1
    simp only [e1, e2, h1, h2]
    exact ⟨trivial, trivial⟩
theorem ends_two {J : Nat → JobT} {a b : Nat → Int} {p q : Int} {ws : List Int} {nw : Nat} : ∀ i, (∀ j, gi (endsL (stp J a b) (p, q) ws nw i) (j * 2) = gi (en1 J a p ws nw i) j) ∧ (∀ j, gi (endsL (stp J a b) (p, q) ws nw i) (j * 2 + 1) = gi (en1 J b q ws nw i) j)
  | 0 => ⟨fun j => rfl, fun j => rfl⟩
  | i + 1 => by
    obtain ⟨h1, h2⟩ := ends_two (J := J) (a := a) (b := b) (p := p) (q := q) (ws := ws) (nw := nw) i
    have e := readyS_two (b := (p, q)) (al := aftL (J i).after i) h1 h2 (aftL (J i).after i).length
    have l0 := endsL_length (stp J a b) (p, q) ws nw i
    have l1 := en1_length J a p ws nw i
    have l2 := en1_length J b q ws nw i
    have n1 : (endS (endsL (stp J a b) (p, q) ws nw i) (p, q) (stp J a b i) ws nw).1 = nextE (en1 J a p ws nw i) (J i) i (a i) p ws nw := by
      show endV (readyS _ _ _ _).1 _ _ _ _ = _
      exact congrArg (fun r => endV r (a i) (J i).calm ws nw) e.1
    have n2 : (endS (endsL (stp J a b) (p, q) ws nw i) (p, q) (stp J a b i) ws nw).2 = nextE (en1 J b q ws nw i) (J i) i (b i) q ws nw := by
      show endV (readyS _ _ _ _).2 _ _ _ _ = _
      exact congrArg (fun r => endV r (b i) (J i).calm ws nw) e.2
    unfold endsL en1
    rw [n1, n2]
    refine ⟨fun j => ?_, fun j => ?_⟩
    · rcases Nat.lt_trichotomy j i with h | h | h
      · rw [gi_lft (by omega), gi_lft (by omega)]; exact h1 j
      · subst h
        rw [gi_rgt (d := 0) (by omega), gi_rgt (d := 0) (by omega)]; rfl
      · rw [gi_out (by simp; omega), gi_out (by simp; omega)]
    · rcases Nat.lt_trichotomy j i with h | h | h
      · rw [gi_lft (by omega), gi_lft (by omega)]; exact h2 j
      · subst h
        rw [gi_rgt (d := 1) (by omega), gi_rgt (d := 0) (by omega)]; rfl
      · rw [gi_out (by simp; omega), gi_out (by simp; omega)]
theorem all_two {J : Nat → JobT} {a b : Nat → Int} {p q : Int} {ws : List Int} {nw : Nat} : ∀ i, (allS (stp J a b) (p, q) ws nw i).1 = al1 J a p ws nw i ∧ (allS (stp J a b) (p, q) ws nw i).2 = al1 J b q ws nw i
  | 0 => ⟨rfl, rfl⟩
  | i + 1 => by
    obtain ⟨g1, g2⟩ := all_two (J := J) (a := a) (b := b) (p := p) (q := q) (ws := ws) (nw := nw) i
    obtain ⟨h1, h2⟩ := ends_two (J := J) (a := a) (b := b) (p := p) (q := q) (ws := ws) (nw := nw) i
    have e := readyS_two (b := (p, q)) (al := aftL (J i).after i) h1 h2 (aftL (J i).after i).length
    have n1 : (endS (endsL (stp J a b) (p, q) ws nw i) (p, q) (stp J a b i) ws nw).1 = nextE (en1 J a p ws nw i) (J i) i (a i) p ws nw := by
      show endV (readyS _ _ _ _).1 _ _ _ _ = _
      exact congrArg (fun r => endV r (a i) (J i).calm ws nw) e.1
    have n2 : (endS (endsL (stp J a b) (p, q) ws nw i) (p, q) (stp J a b i) ws nw).2 = nextE (en1 J b q ws nw i) (J i) i (b i) q ws nw := by
      show endV (readyS _ _ _ _).2 _ _ _ _ = _
      exact congrArg (fun r => endV r (b i) (J i).calm ws nw) e.2
    unfold allS al1
    simp only [n1, n2, g1, g2]
    exact ⟨trivial, trivial⟩
theorem en1_at {J : Nat → JobT} {t : Nat → Int} {b : Int} {ws : List Int} {nw : Nat} : ∀ {n i : Nat}, i < n → gi (en1 J t b ws nw n) i = nextE (en1 J t b ws nw i) (J i) i (t i) b ws nw
  | 0, _, h => absurd h (by omega)
  | n + 1, i, h => by
    have l := en1_length J t b ws nw n
    by_cases hi : i = n
    · subst hi; exact gi_rgt (d := 0) (by omega)
    · rw [← en1_at (n := n) (i := i) (by omega)]
      exact gi_lft (by omega)
theorem rd1_bd {B : Int} {E : List Int} {b : Int} {al : List Int} (hB : B ≤ never) (hE : ∀ j, Bd B (gi E j)) (hb : Bd B b) : ∀ k, Bd B (rd1 E b al k)
  | 0 => hb
  | k + 1 => by
    have ih := rd1_bd hB hE hb (al := al) k
    unfold rd1
    refine Bd.max ?_ (hE _) hB
    split
    · exact hE _
    · exact ih
theorem WinOk.ww {ws : List Int} {nw : Nat} (h : WinOk ws nw) : ∀ i, i < nw → 0 ≤ gi ws (i * 2) ∧ gi ws (i * 2 + 1) ≤ 1000000000 ∧ gi ws (i * 2) ≤ 1000000000 := fun i hi => by have := h.bd i hi; omega
theorem en1_bd {J : Nat → JobT} {t : Nat → Int} {b : Int} {ws : List Int} {nw : Nat} (ht : ∀ i, 0 ≤ t i ∧ t i ≤ 100000000) (hb : 0 ≤ b ∧ b ≤ 1000000000) (hw : WinOk ws nw) : ∀ i : Nat, i ≤ 100 → ∀ j, Bd (1000000000 + i * 100000000) (gi (en1 J t b ws nw i) j)
  | 0, _, j => by simp [en1, gi, Bd]
  | i + 1, hi, j => by
    have ih := en1_bd (J := J) ht hb hw i (by omega)
    have l := en1_length J t b ws nw i
    have hr := rd1_bd (al := aftL (J i).after i) (b := b) (by unfold never; omega) ih ⟨hb.1, .inl (by omega)⟩ (aftL (J i).after i).length
    have e1 := endV_bd (calm := (J i).calm) hr (by omega) (by omega) (ht i) hw.ww
    have eB : (1000000000 + ((i + 1 : Nat) : Int) * 100000000) = 1000000000 + (i : Int) * 100000000 + 100000000 := by omega
    rw [eB]
    unfold en1
    rcases Nat.lt_trichotomy j i with h | h | h
    · rw [gi_lft (by omega)]; exact (ih j).mono (by omega)
    · subst h
      rw [gi_rgt (d := 0) (by omega)]; exact e1
    · rw [gi_out (by simp; omega)]; exact ⟨by omega, .inl (by omega)⟩
theorem ready_bd {J : Nat → JobT} {t : Nat → Int} {b : Int} {ws : List Int} {nw i : Nat} (ht : ∀ i, 0 ≤ t i ∧ t i ≤ 100000000) (hb : 0 ≤ b ∧ b ≤ 1000000000) (hw : WinOk ws nw) (hi : i ≤ 90) (k : Nat) : Bd 10000000000 (rd1 (en1 J t b ws nw i) b (aftL (J i).after i) k) :=
  rd1_bd (by unfold never; omega) (fun j => (en1_bd ht hb hw i (by omega) j).mono (by omega)) ⟨hb.1, .inl (by omega)⟩ k
theorem slotAt_eq {r t : Int} {ws : List Int} {i : Nat} (hr : 0 ≤ r ∧ r ≤ never) (ht : 0 ≤ t ∧ t ≤ 100000000) (hl : 0 ≤ gi ws (i * 2) ∧ gi ws (i * 2) ≤ 1000000000) : slotAt r t ws i = max r (gi ws (i * 2)) + t := by
  unfold slotAt
  unfold never at hr
  exact wrId (by omega) (by omega)
theorem slot_le {r t : Int} {ws : List Int} {nw : Nat} (hr : 0 ≤ r ∧ r ≤ never) (ht : 0 ≤ t ∧ t ≤ 100000000) (hw : WinOk ws nw) {j : Nat} (hf : slotAt r t ws j ≤ gi ws (j * 2 + 1)) : ∀ {k i : Nat}, i + k = nw → i ≤ j → j < nw → slotV r t ws k i ≤ slotAt r t ws j
  | 0, i, h, h1, h2 => absurd h1 (by omega)
  | k + 1, i, h, h1, h2 => by
    unfold slotV
    split
    · rename_i hfi
      by_cases hij : i = j
      · subst hij; exact Int.le_refl _
      · have h3 := hw.ord i j (by omega) h2
        have h4 := hw.bd j h2
        rw [slotAt_eq hr ht ⟨h4.1, by omega⟩]
        omega
    · rename_i hfi
      have hij : i ≠ j := fun h => hfi (by rw [h]; exact hf)
      exact slot_le hr ht hw hf (by omega) (by omega) h2
theorem slot_cases {r t : Int} {ws : List Int} : ∀ {k i : Nat}, slotV r t ws k i = never ∨ ∃ j, i ≤ j ∧ j < i + k ∧ slotAt r t ws j ≤ gi ws (j * 2 + 1) ∧ slotV r t ws k i = slotAt r t ws j
  | 0, _ => .inl rfl
  | k + 1, i => by
    unfold slotV
    split
    · rename_i h
      exact .inr ⟨i, by omega, by omega, h, rfl⟩
    · rcases slot_cases (r := r) (t := t) (ws := ws) (k := k) (i := i + 1) with h | ⟨j, h1, h2, h3, h4⟩
      · exact .inl h
      · exact .inr ⟨j, by omega, by omega, h3, h4⟩
def WSub (ws : List Int) (nw : Nat) (ws' : List Int) (nw' : Nat) : Prop := ∀ j, j < nw' → ∃ i, i < nw ∧ gi ws (i * 2) = gi ws' (j * 2) ∧ gi ws (i * 2 + 1) = gi ws' (j * 2 + 1)
theorem WSub.refl (ws : List Int) (nw : Nat) : WSub ws nw ws nw := fun j hj => ⟨j, hj, rfl, rfl⟩
theorem wSub_drop {ws : List Int} {nw d : Nat} (hl : ws.length = nw * 2) (hd : d < nw) : WSub ws nw (wDrop ws d) (nw - 1) := fun j hj => by
  obtain ⟨i, h1, _, h2, h3⟩ := wDrop_sub hl hd hj
  exact ⟨i, h1, h2, h3⟩
theorem slot_mono {r t r' t' : Int} {ws ws' : List Int} {nw nw' : Nat} (hr : 0 ≤ r ∧ r ≤ r' ∧ r' ≤ never) (ht : 0 ≤ t ∧ t ≤ t' ∧ t' ≤ 100000000) (hw : WinOk ws nw) (hw' : WinOk ws' nw') (hs : WSub ws nw ws' nw') : slotV r t ws nw 0 ≤ slotV r' t' ws' nw' 0 := by
  rcases slot_cases (r := r') (t := t') (ws := ws') (k := nw') (i := 0) with h | ⟨j, _, h2, h3, h4⟩
  · rw [h]
    exact (slotV_bd ⟨hr.1, by omega⟩ ⟨ht.1, by omega⟩ hw.ww nw 0 (by omega)).le (by unfold never; omega)
  · rw [h4]
    obtain ⟨i, hi, e1, e2⟩ := hs j (by omega)
    have b' := hw'.bd j (by omega)
    have b := hw.bd i hi
    rw [slotAt_eq ⟨by omega, hr.2.2⟩ ⟨by omega, ht.2.2⟩ ⟨b'.1, by omega⟩] at h3 ⊢
    have e := slotAt_eq (r := r) (t := t) (ws := ws) (i := i) ⟨hr.1, by omega⟩ ⟨ht.1, by omega⟩ ⟨b.1, by omega⟩
    have := slot_le (r := r) (t := t) ⟨hr.1, by omega⟩ ⟨ht.1, by omega⟩ hw (j := i) (by rw [e, e1, e2]; omega) (k := nw) (i := 0) (by omega) (by omega) hi
    rw [e, e1] at this
    omega
theorem endV_mono {r t r' t' : Int} {calm : Bool} {ws ws' : List Int} {nw nw' : Nat} (hr : Bd 10000000000 r) (hr' : Bd 10000000000 r') (hrr : r ≤ r') (ht : 0 ≤ t ∧ t ≤ t' ∧ t' ≤ 100000000) (hw : WinOk ws nw) (hw' : WinOk ws' nw') (hs : WSub ws nw ws' nw') : endV r t calm ws nw ≤ endV r' t' calm ws' nw' := by
  have hB : (10000000000 : Int) ≤ never := by unfold never; omega
  have l := hr.le hB
  have l' := hr'.le hB
  by_cases h' : r' = never
  · rw [show endV r' t' calm ws' nw' = never from if_pos h']
    exact (endV_bd (calm := calm) hr (by omega) (by omega) ⟨ht.1, by omega⟩ hw.ww).le (by unfold never; omega)
  · have h : r ≠ never := by omega
    unfold endV
    rw [if_neg h, if_neg h']
    cases calm with
    | true => exact slot_mono ⟨hr.1, hrr, l'⟩ ht hw hw' hs
    | false =>
      have b : r ≤ 10000000000 := hr.2.resolve_right h
      have b' : r' ≤ 10000000000 := hr'.2.resolve_right h'
      have p := hr.1
      have p' := hr'.1
      show wr .i64 (r + t) ≤ wr .i64 (r' + t')
      rw [wrId (by omega) (by omega), wrId (by omega) (by omega)]
      omega
theorem rd1_mono {E E' : List Int} {b b' : Int} {al : List Int} (hE : ∀ j, gi E j ≤ gi E' j) (hb : b ≤ b') : ∀ k, rd1 E b al k ≤ rd1 E' b' al k
  | 0 => hb
  | k + 1 => by
    have ih := rd1_mono hE hb (al := al) k
    have h1 := hE (gi al k).toNat
    unfold rd1
    split <;> omega
section
variable {J : Nat → JobT} {t t' : Nat → Int} {b b' : Int} {ws ws' : List Int} {nw nw' : Nat}
theorem nextE_mono {i : Nat} (hi : i ≤ 90) (ht : ∀ i, 0 ≤ t i ∧ t i ≤ t' i ∧ t' i ≤ 100000000) (hb : 0 ≤ b ∧ b ≤ b' ∧ b' ≤ 1000000000) (hw : WinOk ws nw) (hw' : WinOk ws' nw') (hs : WSub ws nw ws' nw') (ih : ∀ j, gi (en1 J t b ws nw i) j ≤ gi (en1 J t' b' ws' nw' i) j) :
    nextE (en1 J t b ws nw i) (J i) i (t i) b ws nw ≤ nextE (en1 J t' b' ws' nw' i) (J i) i (t' i) b' ws' nw' :=
  endV_mono (ready_bd (fun i => by have := ht i; omega) (by omega) hw hi _) (ready_bd (fun i => by have := ht i; omega) (by omega) hw' hi _) (rd1_mono ih hb.2.1 _) (ht i) hw hw' hs
theorem en1_mono (ht : ∀ i, 0 ≤ t i ∧ t i ≤ t' i ∧ t' i ≤ 100000000) (hb : 0 ≤ b ∧ b ≤ b' ∧ b' ≤ 1000000000) (hw : WinOk ws nw) (hw' : WinOk ws' nw') (hs : WSub ws nw ws' nw') : ∀ i, i ≤ 90 → ∀ j, gi (en1 J t b ws nw i) j ≤ gi (en1 J t' b' ws' nw' i) j
  | 0, _, j => Int.le_refl _
  | i + 1, hi, j => by
    have ih := en1_mono ht hb hw hw' hs i (by omega)
    have hx := nextE_mono (J := J) (i := i) (by omega) ht hb hw hw' hs ih
    have l := en1_length J t b ws nw i
    have l' := en1_length J t' b' ws' nw' i
    unfold en1
    rcases Nat.lt_trichotomy j i with h | h | h
    · rw [gi_lft (by omega), gi_lft (by omega)]; exact ih j
    · subst h
      rw [gi_rgt (d := 0) (by omega), gi_rgt (d := 0) (by omega)]; exact hx
    · rw [gi_out (by simp; omega), gi_out (by simp; omega)]; exact Int.le_refl _
theorem al1_mono (ht : ∀ i, 0 ≤ t i ∧ t i ≤ t' i ∧ t' i ≤ 100000000) (hb : 0 ≤ b ∧ b ≤ b' ∧ b' ≤ 1000000000) (hw : WinOk ws nw) (hw' : WinOk ws' nw') (hs : WSub ws nw ws' nw') : ∀ i, i ≤ 90 → al1 J t b ws nw i ≤ al1 J t' b' ws' nw' i
  | 0, _ => hb.2.1
  | i + 1, hi => by
    have ih := al1_mono ht hb hw hw' hs i (by omega)
    have hx := nextE_mono (J := J) (i := i) (by omega) ht hb hw hw' hs (en1_mono ht hb hw hw' hs i (by omega))
    unfold al1
    omega
end
end Go.Ab.Dike
namespace Go.Ab.Dike
open Go Go.Ab
def tkT (J : Nat → JobT) (i : Nat) : Int := (J i).lo + (J i).truth.tmod ((J i).more + 1)
theorem tk_bd {J : Nat → JobT} (hJ : ∀ i, JobOk (J i)) (i : Nat) : (J i).lo ≤ tkT J i ∧ tkT J i ≤ (J i).lo + (J i).more ∧ 0 ≤ (J i).truth.tmod ((J i).more + 1) := by
  obtain ⟨_, ⟨m0, m1⟩, u0, u1⟩ := hJ i
  have h1 := Int.tmod_nonneg ((J i).more + 1) u0
  have h2 := Int.tmod_lt_of_pos (J i).truth (b := (J i).more + 1) (by omega)
  unfold tkT
  omega
def body120a : ACode := (.seq
 (.ops [
oB 89 .lss 88 87])
 (.seq
 (.cond (.t 89)
 .skip
 (.exit 0))
 (.seq
 (.block 1
 (.seq
 (.ops [
oM 90 88,
oI 91 86 88 5,
oD 92 91 5,
oP 23 (.alloc [.int .u16 0, .int .u16 0, .int .u16 0, .bool false, .int .u16 0]),
oM 22 90,
oT 23 92 5])
 (.seq
 (.ops [
oM 93 19,
oM 24 93])
 (.seq
 (.seq
 (.ops [
oM 94 13,
oM 95 22,
oI 96 94 95 7,
oF 97 96 1,
oL 98 97,
oP 99 (.len (.t 98)),
oP 100 (.move (oK 0))])
 (.block 2
 (.loop
 (.seq
 (.ops [
oB 101 .lss 100 99])
 (.seq
 (.cond (.t 101)
 .skip
 (.exit 2))
 (.seq
 (.block 3
 (.seq
 (.ops [
oM 102 100,
oI 103 98 100 1,
oL 104 103,
oM 25 102,
oM 26 104])
 (.seq
 (.seq
 (.ops [
oM 105 25,
oC 106 .eql 105 0])
 (.cond (.t 106)
 (.ops [
oM 107 21,
oM 108 26,
oI 109 107 108 1,
oL 110 109,
oM 24 110])
 .skip))
 (.ops [
oM 111 24,
oM 112 21,
oM 113 26,
oI 114 112 113 1,
oL 115 114,
oP 116 (.max [.t 111, .t 115]),
oM 24 116]))))
 (.ops [
oC 117 .add 100 1,
oM 100 117])))))))
 (.seq
 (.ops [
oF 118 23 0,
oL 119 118,
oP 120 (.toInt .i64 (.t 119)),
oF 121 23 4,
oL 122 121,
oP 123 (.toInt .i64 (.t 122)),
oF 124 23 1,
oL 125 124,
oP 126 (.toInt .i64 (.t 125)),
oC 127 .add 126 1,
oB 128 .rem 123 127,
oB 129 .add 120 128,
oM 27 129])
 (.seq
 (.ops [
oM 130 24,
oM 131 27,
oB 132 .add 130 131,
oM 28 132])
 (.seq
 (.seq
 (.ops [
oF 133 23 3,
oL 134 133])
 (.cond (.t 134)
 (.seq
 (.ops [
oP 28 (.move (oK 1099511627776))])
 (.seq
 (.ops [
oM 135 14,
oP 136 (.len (.t 135)),
oP 137 (.move (oK 0))])
 (.block 4
 (.loop
 (.seq
 (.ops [
oB 138 .lss 137 136])
 (.seq
 (.cond (.t 138)
 .skip
 (.exit 4))
 (.seq
 (.block 5
 (.seq
 (.ops [
oI 139 135 137 2,
oD 140 139 2,
oP 30 (.alloc [.int .i64 0, .int .i64 0]),
oT 30 140 2])
 (.seq
 (.ops [
oM 141 24,
oF 142 30 0,
oL 143 142,
oP 144 (.max [.t 141, .t 143]),
oM 31 144])
 (.seq
 (.ops [
oM 145 28,
oC 146 .eql 145 1099511627776,
oM 147 146,
oN 148 147 true 24,
oQ 149 147 true (.bin .lss (.t 148) (oK 1099511627776)),
oP 150 (.pick (.t 147) (.t 149) (.k (.bool false))),
oM 151 150,
oN 152 151 true 31,
oN 153 151 true 27,
oQ 154 151 true (.bin .add (.t 152) (.t 153)),
oQ 155 151 true (.fieldAddr (.t 30) 1),
oQ 156 151 true (.load (.t 155) none),
oQ 157 151 true (.bin .leq (.t 154) (.t 156)),
oP 158 (.pick (.t 151) (.t 157) (.k (.bool false)))])
 (.cond (.t 158)
 (.ops [
oM 159 31,
oM 160 27,
oB 161 .add 159 160,
oM 28 161])
 .skip)))))
 (.ops [
oC 162 .add 137 1,
oM 137 162]))))))))
 .skip))
 (.seq
 (.seq
 (.ops [
oM 163 24,
oC 164 .geq 163 1099511627776])
 (.cond (.t 164)
 (.ops [
oP 28 (.move (oK 1099511627776))])
 .skip))
 (.seq
 (.ops [
oM 165 21,
oM 166 28,
oP 167 (.slit 1 1 [.int .i64 0] [(0, .t 166)]),
oP 168 (.append (.t 165) (.t 167) 1 8),
oM 169 20,
oM 170 28,
oP 171 (.max [.t 169, .t 170]),
oM 21 168,
oM 20 171])
 (.seq
 (.ops [
oM 172 28,
oM 173 28,
oA 174 141 [.t 172, .t 173] true,
oM 175 16,
oM 176 22,
oI 177 175 176 2,
oD 178 177 2,
oA 179 140 [.t 174, .t 178] false,
oP 180 (.not (.t 179))])
 (.cond (.t 180)
 (.seq
 (.ops [
oP 12 (.move (.k (.bool false)))])
 .ret)
 .skip)))))))))))
 (.ops [
oC 181 .add 88 1,
oM 88 181]))))
def q0120 : ACode := (.ops [
oB 89 .lss 88 87])
def q1120 : ACode := (.cond (.t 89)
 .skip
 (.exit 0))
def q2120 : ACode := (.ops [
oC 181 .add 88 1,
oM 88 181])
def pa120 : ACode := (.ops [
oM 90 88,
oI 91 86 88 5,
oD 92 91 5,
oP 23 (.alloc [.int .u16 0, .int .u16 0, .int .u16 0, .bool false, .int .u16 0]),
oM 22 90,
oT 23 92 5])
def pb120 : ACode := (.ops [
oM 93 19,
oM 24 93])
def pc120 : ACode := (.seq
 (.ops [
oM 94 13,
oM 95 22,
oI 96 94 95 7,
oF 97 96 1,
oL 98 97,
oP 99 (.len (.t 98)),
oP 100 (.move (oK 0))])
 (.block 2
 (.loop
 (.seq
 (.ops [
oB 101 .lss 100 99])
 (.seq
 (.cond (.t 101)
 .skip
 (.exit 2))
 (.seq
 (.block 3
 (.seq
 (.ops [
oM 102 100,
oI 103 98 100 1,
oL 104 103,
oM 25 102,
oM 26 104])
 (.seq
 (.seq
 (.ops [
oM 105 25,
oC 106 .eql 105 0])
 (.cond (.t 106)
 (.ops [
oM 107 21,
oM 108 26,
oI 109 107 108 1,
oL 110 109,
oM 24 110])
 .skip))
 (.ops [
oM 111 24,
oM 112 21,
oM 113 26,
oI 114 112 113 1,
oL 115 114,
oP 116 (.max [.t 111, .t 115]),
oM 24 116]))))
 (.ops [
oC 117 .add 100 1,
oM 100 117])))))))
def pd120 : ACode := (.ops [
oF 118 23 0,
oL 119 118,
oP 120 (.toInt .i64 (.t 119)),
oF 121 23 4,
oL 122 121,
oP 123 (.toInt .i64 (.t 122)),
oF 124 23 1,
oL 125 124,
oP 126 (.toInt .i64 (.t 125)),
oC 127 .add 126 1,
oB 128 .rem 123 127,
oB 129 .add 120 128,
oM 27 129])
def pe120 : ACode := (.ops [
oM 130 24,
oM 131 27,
oB 132 .add 130 131,
oM 28 132])
def pf120 : ACode := (.seq
 (.ops [
oF 133 23 3,
oL 134 133])
 (.cond (.t 134)
 (.seq
 (.ops [
oP 28 (.move (oK 1099511627776))])
 (.seq
 (.ops [
oM 135 14,
oP 136 (.len (.t 135)),
oP 137 (.move (oK 0))])
 (.block 4
 (.loop
 (.seq
 (.ops [
oB 138 .lss 137 136])
 (.seq
 (.cond (.t 138)
 .skip
 (.exit 4))
 (.seq
 (.block 5
 (.seq
 (.ops [
oI 139 135 137 2,
oD 140 139 2,
oP 30 (.alloc [.int .i64 0, .int .i64 0]),
oT 30 140 2])
 (.seq
 (.ops [
oM 141 24,
oF 142 30 0,
oL 143 142,
oP 144 (.max [.t 141, .t 143]),
oM 31 144])
 (.seq
 (.ops [
oM 145 28,
oC 146 .eql 145 1099511627776,
oM 147 146,
oN 148 147 true 24,
oQ 149 147 true (.bin .lss (.t 148) (oK 1099511627776)),
oP 150 (.pick (.t 147) (.t 149) (.k (.bool false))),
oM 151 150,
oN 152 151 true 31,
oN 153 151 true 27,
oQ 154 151 true (.bin .add (.t 152) (.t 153)),
oQ 155 151 true (.fieldAddr (.t 30) 1),
oQ 156 151 true (.load (.t 155) none),
oQ 157 151 true (.bin .leq (.t 154) (.t 156)),
oP 158 (.pick (.t 151) (.t 157) (.k (.bool false)))])
 (.cond (.t 158)
 (.ops [
oM 159 31,
oM 160 27,
oB 161 .add 159 160,
oM 28 161])
 .skip)))))
 (.ops [
oC 162 .add 137 1,
oM 137 162]))))))))
 .skip))
def pg120 : ACode := (.seq
 (.ops [
oM 163 24,
oC 164 .geq 163 1099511627776])
 (.cond (.t 164)
 (.ops [
oP 28 (.move (oK 1099511627776))])
 .skip))
def ph120 : ACode := (.ops [
oM 165 21,
oM 166 28,
oP 167 (.slit 1 1 [.int .i64 0] [(0, .t 166)]),
oP 168 (.append (.t 165) (.t 167) 1 8),
oM 169 20,
oM 170 28,
oP 171 (.max [.t 169, .t 170]),
oM 21 168,
oM 20 171])
def pi120 : ACode := (.seq
 (.ops [
oM 172 28,
oM 173 28,
oA 174 141 [.t 172, .t 173] true,
oM 175 16,
oM 176 22,
oI 177 175 176 2,
oD 178 177 2,
oA 179 140 [.t 174, .t 178] false,
oP 180 (.not (.t 179))])
 (.cond (.t 180)
 (.seq
 (.ops [
oP 12 (.move (.k (.bool false)))])
 .ret)
 .skip))
theorem eq120a : body120a = .seq q0120 (.seq q1120 (.seq (.block 1 (.seq pa120 (.seq pb120 (.seq pc120 (.seq pd120 (.seq pe120 (.seq pf120 (.seq pg120 (.seq ph120 pi120))))))))) q2120)) := rfl
section
variable {g : Nat} {rd : Option Nat} {T : List Value} {D : List Nat} {A : Hp} {Q : Ex → St → Prop} {V : Value → Hp → Prop}
theorem loop120b {an i : Nat} {al E : List Int} {b : Int} {a dv : Value} (ha : RdS A 1 an (ints al) a) (hd : RdS A 1 i (ints E) dv) (hal : ∀ k, k < an → 0 ≤ gi al k ∧ gi al k < i) (hn : an ≤ 100)
    (hQ : ∀ T', KeepT [0, 5, 13, 14, 15, 16, 17, 19, 20, 21, 22, 23, 86, 87, 88] T T' → tget T' 24 = .int .i64 (rd1 E b al an) → Q (.exit 2) ⟨T', D, A⟩) (t21 : tget T 21 = dv) :
    ∀ (r k : Nat) {T1 : List Value}, k + r = an → KeepT [0, 5, 13, 14, 15, 16, 17, 19, 20, 21, 22, 23, 86, 87, 88] T T1 → tget T1 98 = a → tget T1 99 = .int .i64 an → tget T1 100 = .int .i64 k → tget T1 24 = .int .i64 (rd1 E b al k) → W AP KL g rd (.loop body120b) ⟨T1, D, A⟩ Q := by
  have hl := ha.1
  have hld := hd.1
  rw [ints_length] at hl hld
  intro r
  induction r with
  | zero =>
    intro k T1 hkr hk t98 t99 t100 t24
    have : k = an := by omega
    subst this
    rw [W_loop]
    simp (disch := as_aux_lemma => first | omega | simp only [hDs] <;> omega | simp [isCell]) [hRs, takeMarks, resA, resAll, resOne, Value.cells, body120b, t99, t100]
    exact hQ _ (hk.trans (by simp)) (by simp [t24])
  | succ r ih =>
    intro k T1 hkr hk t98 t99 t100 t24
    have u21 := (hk.at 21 rfl).trans t21
    obtain ⟨x, c, ro, rfl, hx⟩ := ha.at (i := k) (by omega)
    obtain ⟨d0, d1⟩ := hal k (by omega)
    obtain ⟨d, hdd⟩ : ∃ d : Nat, gi al k = (d : Int) := ⟨(gi al k).toNat, by omega⟩
    have hpa := ints_get (l := al) (o := k) (by omega)
    rw [hdd] at hpa d1
    obtain ⟨y, cy, ry, rfl, hy⟩ := hd.at (i := d) (by omega)
    have hpd := ints_get (l := E) (o := d) (by omega)
    have e3 := wrId (n := (k : Int) + 1) (by omega) (by omega)
    have hr : rd1 E b al (k + 1) = max (if k = 0 then gi E d else rd1 E b al k) (gi E d) := by rw [rd1, hdd, Int.toNat_natCast]
    rw [W_loop]
    by_cases h0 : k = 0
    · rw [if_pos h0] at hr
      have h0' : k = 0 ↔ True := iff_true_intro h0
      simp (disch := as_aux_lemma => first | omega | simp only [hDs] <;> omega | simp [isCell]) [hRs, takeMarks, resA, resAll, resOne, Value.cells, body120b, t98, t99, t100, u21, h0', show ((k : Int) < an) by omega, idxSA_ok, hx, hy, hpa, hpd, show ((d : Int) < i) by omega]
      refine ih (k + 1) (by omega) (hk.trans (by simp)) (by simp [t98]) (by simp [t99]) (by simp [e3]) (by rw [hr]; simp)
    · rw [if_neg h0] at hr
      have h0' : ¬ (k : Int) = 0 := by omega
      simp (disch := as_aux_lemma => first | omega | simp only [hDs] <;> omega | simp [isCell]) [hRs, takeMarks, resA, resAll, resOne, Value.cells, body120b, t24, t98, t99, t100, u21, h0, h0', show ((k : Int) < an) by omega, idxSA_ok, hx, hy, hpa, hpd, show ((d : Int) < i) by omega]
      refine ih (k + 1) (by omega) (hk.trans (by simp)) (by simp [t98]) (by simp [t99]) (by simp [e3]) (by rw [hr]; simp)
def Slot (r t : Int) (ws : List Int) (nw k i : Nat) (e : Int) : Prop :=
  (r = never → e = never) ∧ (r ≠ never → (e = never ∧ slotV r t ws nw 0 = slotV r t ws k i) ∨ (e ≠ never ∧ slotV r t ws nw 0 = e))
theorem loop120c {A0 : Hp} {nw : Nat} {ws : List Int} {wl : Value} {r t : Int} (hwl : RdS A0 2 nw (ints ws) wl) (hnw : nw ≤ 1000) (hw : WinOk ws nw) (hr : 0 ≤ r ∧ r ≤ never) (ht : 0 ≤ t ∧ t ≤ 100000000) (hg : g ≤ A0.n)
    (hQ : ∀ T' A', KeepT [0, 5, 13, 14, 15, 16, 17, 19, 20, 21, 22, 23, 24, 86, 87, 88] T T' → tget T' 28 = .int .i64 (if r = never then never else slotV r t ws nw 0) → Ext' A0 A' → Q (.exit 4) ⟨T', D, A'⟩) (t24 : tget T 24 = .int .i64 r) (t27 : tget T 27 = .int .i64 t) :
    ∀ (k i : Nat) {T1 : List Value} {A : Hp} {e : Int}, i + k = nw → KeepT [0, 5, 13, 14, 15, 16, 17, 19, 20, 21, 22, 23, 24, 27, 86, 87, 88] T T1 → tget T1 135 = wl → tget T1 136 = .int .i64 nw → tget T1 137 = .int .i64 i → tget T1 28 = .int .i64 e → Slot r t ws nw k i e → Ext' A0 A → W AP KL g rd (.loop body120c) ⟨T1, D, A⟩ Q := by
  have hl := hwl.1
  rw [ints_length] at hl
  intro k
  induction k with
  | zero =>
    intro i T1 A e hik hk t135 t136 t137 t28 hs he
    have : i = nw := by omega
    subst this
    rw [W_loop]
    simp (disch := as_aux_lemma => first | omega | simp only [hDs] <;> omega | simp [isCell]) [hRs, takeMarks, resA, resAll, resOne, Value.cells, body120c, t136, t137]
    refine hQ _ _ ?_ ?_ he
    · simp [hk.at 0 rfl, hk.at 5 rfl, hk.at 13 rfl, hk.at 14 rfl, hk.at 15 rfl, hk.at 16 rfl, hk.at 17 rfl, hk.at 19 rfl, hk.at 20 rfl, hk.at 21 rfl, hk.at 22 rfl, hk.at 23 rfl, hk.at 24 rfl, hk.at 86 rfl, hk.at 87 rfl, hk.at 88 rfl]
    · simp [t28]
      split
      · rename_i h; exact hs.1 h
      · rename_i h
        rcases hs.2 h with ⟨h1, h2⟩ | ⟨_, h2⟩
        · rw [h1, h2]; rfl
        · exact h2.symm
  | succ k ih =>
    intro i T1 A e hik hk t135 t136 t137 t28 hs he
    have u24 := (hk.at 24 rfl).trans t24
    have u27 := (hk.at 27 rfl).trans t27
    obtain ⟨x, c, ro, rfl, hx⟩ := (he.rdS hwl).at (i := i) (by omega)
    have hwi := hw.bd i (by omega)
    have hA0 := he.1
    obtain ⟨lo, hlo⟩ : ∃ lo, lo = gi ws (i * 2) := ⟨_, rfl⟩
    obtain ⟨hi, hhi⟩ : ∃ hi, hi = gi ws (i * 2 + 1) := ⟨_, rfl⟩
    have hp : partA (ints ws) (i * 2) (some 2) = some (.agg ⟨[.int .i64 lo, .int .i64 hi]⟩) := by rw [hlo, hhi]; exact ints_two (by omega)
    rw [← hlo, ← hhi] at hwi
    have hsl : slotAt r t ws i = max r lo + t := by rw [hlo]; exact slotAt_eq hr ht (by omega)
    have hstep : slotV r t ws (k + 1) i = if max r lo + t ≤ hi then max r lo + t else slotV r t ws k (i + 1) := by rw [slotV, hsl, hhi]
    have e3 := wrId (n := (i : Int) + 1) (by omega) (by omega)
    have e4 := wrId (n := max r lo + t) (by unfold never at hr; omega) (by unfold never at hr; omega)
    have eP := Ext'.push A (.cells [.int .i64 lo, .int .i64 hi] false)
    rw [W_loop]
    by_cases c1 : e = 1099511627776
    · by_cases c2 : r < 1099511627776
      · have hrn : r ≠ never := by unfold never; omega
        rcases hs.2 hrn with ⟨_, h2⟩ | ⟨h2, _⟩
        · rw [hstep] at h2
          by_cases c3 : max r lo + t ≤ hi
          · simp (disch := as_aux_lemma => first | omega | simp only [hDs] <;> omega | simp [isCell]) [hRs, takeMarks, resA, resAll, resOne, Value.cells, body120c, t28, u24, u27, t135, t136, t137, c1, c2, c3, show ((i : Int) < nw) by omega, idxSA_ok, hx, hp, storeB_cells, setRange, set_push_eq, e4]
            refine ih (i + 1) (e := max r lo + t) (by omega) (hk.trans (by simp)) (by simp [t135]) (by simp [t136]) (by simp [e3, t137]) (by simp [u27, e4]) ⟨fun h => absurd h hrn, fun _ => .inr ⟨by unfold never; omega, by rw [h2, if_pos c3]⟩⟩ (he.trans eP)
          · simp (disch := as_aux_lemma => first | omega | simp only [hDs] <;> omega | simp [isCell]) [hRs, takeMarks, resA, resAll, resOne, Value.cells, body120c, t28, u24, u27, t135, t136, t137, c1, c2, c3, show ((i : Int) < nw) by omega, idxSA_ok, hx, hp, storeB_cells, setRange, set_push_eq, e4]
            refine ih (i + 1) (e := never) (by omega) (hk.trans (by simp)) (by simp [t135]) (by simp [t136]) (by simp [e3, t137]) (by simp [t28, c1, never]) ⟨fun h => absurd h hrn, fun _ => .inl ⟨rfl, by rw [h2, if_neg c3]⟩⟩ (he.trans eP)
        · exact absurd (show e = never from c1) h2
      · have hrn : r = never := by unfold never at *; omega
        simp (disch := as_aux_lemma => first | omega | simp only [hDs] <;> omega | simp [isCell]) [hRs, takeMarks, resA, resAll, resOne, Value.cells, body120c, t28, u24, u27, t135, t136, t137, c1, c2, show ((i : Int) < nw) by omega, idxSA_ok, hx, hp, storeB_cells, setRange, set_push_eq, e4]
        refine ih (i + 1) (e := never) (by omega) (hk.trans (by simp)) (by simp [t135]) (by simp [t136]) (by simp [e3, t137]) (by simp [t28, c1, never]) ⟨fun _ => rfl, fun h => absurd hrn h⟩ (he.trans eP)
    · simp (disch := as_aux_lemma => first | omega | simp only [hDs] <;> omega | simp [isCell]) [hRs, takeMarks, resA, resAll, resOne, Value.cells, body120c, t28, u24, u27, t135, t136, t137, c1, show ((i : Int) < nw) by omega, idxSA_ok, hx, hp, storeB_cells, setRange, set_push_eq, e4]
      refine ih (i + 1) (e := e) (by omega) (hk.trans (by simp)) (by simp [t135]) (by simp [t136]) (by simp [e3, t137]) (by simp [t28]) ⟨hs.1, fun h => ?_⟩ (he.trans eP)
      rcases hs.2 h with ⟨h1, _⟩ | h2
      · exact absurd h1 c1
      · exact .inr h2
end
end Go.Ab.Dike
namespace Go.Ab.Dike
open Go Go.Ab
section
variable {g : Nat} {rd : Option Nat} {T : List Value} {D : List Nat} {A : Hp} {Q : Ex → St → Prop} {V : Value → Hp → Prop}
theorem pf120_ok {X nw : Nat} {ws : List Int} {wl : Value} {r t : Int} {j : JobT} (hX : A.get X = some (.cells (jobC j) false)) (hwl : RdS A 2 nw (ints ws) wl) (hnw : nw ≤ 1000) (hw : WinOk ws nw) (hr : Bd 10000000000 r) (ht : 0 ≤ t ∧ t ≤ 100000000) (hg : g ≤ A.n)
    (t14 : tget T 14 = wl) (t23 : tget T 23 = .pointer (some ⟨X, 0, none⟩)) (t24 : tget T 24 = .int .i64 r) (t27 : tget T 27 = .int .i64 t) (t28 : tget T 28 = .int .i64 (wr .i64 (r + t)))
    (hQ : ∀ T' A' e, KeepT [0, 5, 13, 14, 15, 16, 17, 19, 20, 21, 22, 23, 24, 86, 87, 88] T T' → tget T' 28 = .int .i64 e → (r ≠ never → e = endV r t j.calm ws nw) → Ext' A A' → Q .normal ⟨T', D, A'⟩) : W AP KL g rd pf120 ⟨T, D, A⟩ Q := by
  unfold jobC at hX
  cases hc : j.calm with
  | false =>
    rw [hc] at hX
    simp (disch := as_aux_lemma => first | omega | simp only [hDs] <;> omega | simp [isCell]) [hRs, takeMarks, resA, resAll, resOne, Value.cells, pf120, t23, hX]
    refine hQ _ _ (wr .i64 (r + t)) (by simp) (by simp [t28]) (fun h => ?_) (Ext'.refl _)
    rw [endV, if_neg h, hc]; rfl
  | true =>
    rw [hc] at hX
    simp (disch := as_aux_lemma => first | omega | simp only [hDs] <;> omega | simp [isCell]) [hRs, takeMarks, resA, resAll, resOne, Value.cells, pf120, t23, hX, t14, hwl.len]
    refine loop120c hwl hnw hw ⟨hr.1, hr.le (by unfold never; omega)⟩ ht hg ?_ (T := _) ?_ ?_ nw 0 (e := never) (by omega) (fun _ _ => rfl) (by simp) (by simp) (by simp) (by simp [never]) ⟨fun _ => rfl, fun _ => .inl ⟨rfl, rfl⟩⟩ (Ext'.refl _)
    · intro T' A' k2 u28 he
      simp (disch := as_aux_lemma => first | omega | simp only [hDs] <;> omega | simp [isCell]) [hRs, takeMarks, resA, resAll, resOne, Value.cells]
      refine hQ _ _ _ ?_ u28 (fun h => ?_) he
      · refine KeepT.trans ?_ k2
        simp
      · rw [if_neg h, endV, if_neg h, hc]; rfl
    · simp [t24]
    · simp [t27]
theorem pg120_ok {r t e : Int} {calm : Bool} {ws : List Int} {nw : Nat} (hr : r ≤ never) (t24 : tget T 24 = .int .i64 r) (t28 : tget T 28 = .int .i64 e) (he : r ≠ never → e = endV r t calm ws nw)
    (hQ : ∀ T', KeepT [0, 5, 13, 14, 15, 16, 17, 19, 20, 21, 22, 23, 24, 86, 87, 88] T T' → tget T' 28 = .int .i64 (endV r t calm ws nw) → Q .normal ⟨T', D, A⟩) : W AP KL g rd pg120 ⟨T, D, A⟩ Q := by
  by_cases c : 1099511627776 ≤ r
  · have hrn : r = never := by unfold never at *; omega
    simp (disch := as_aux_lemma => first | omega | simp only [hDs] <;> omega | simp [isCell]) [hRs, takeMarks, resA, resAll, resOne, Value.cells, pg120, t24, c]
    refine hQ _ (by simp) ?_
    rw [endV, if_pos hrn]
    simp [never]
  · have hrn : r ≠ never := by unfold never; omega
    simp (disch := as_aux_lemma => first | omega | simp only [hDs] <;> omega | simp [isCell]) [hRs, takeMarks, resA, resAll, resOne, Value.cells, pg120, t24, c]
    exact hQ _ (by simp) (by rw [← he hrn]; simp [t28])
theorem loop120a {A0 : Hp} {n nw : Nat} {J : Nat → JobT} {sl st wl el : Value} {ws EL : List Int} {b : Int} (hsl : Jobs A0 n J sl) (hst : Steps A0 n (jobS J) st) (hwl : RdS A0 2 nw (ints ws) wl) (hel : RdS A0 2 n (ints EL) el) (hn : n ≤ 10) (hJ : ∀ i, JobOk (J i)) (hw : WinOk ws nw) (hnw : nw ≤ 1000) (hb : 0 ≤ b ∧ b ≤ 1000000) (hg : g ≤ A0.n)
    (hin : ∀ i, i < n → gi EL (i * 2) ≤ nextE (en1 J (tkT J) b ws nw i) (J i) i (tkT J i) b ws nw ∧ nextE (en1 J (tkT J) b ws nw i) (J i) i (tkT J i) b ws nw ≤ gi EL (i * 2 + 1))
    (hend : ∀ T' A', KeepT [0, 5, 14, 15, 16, 17] T T' → tget T' 20 = .int .i64 (al1 J (tkT J) b ws nw n) → Ext' A0 A' → Q (.exit 0) ⟨T', D, A'⟩)
    (t13 : tget T 13 = st) (t14 : tget T 14 = wl) (t16 : tget T 16 = el) (t19 : tget T 19 = .int .i64 b) :
    ∀ (r i : Nat) {T1 : List Value} {A : Hp} {dv : Value}, i + r = n → KeepT [0, 5, 13, 14, 15, 16, 17, 19] T T1 → tget T1 20 = .int .i64 (al1 J (tkT J) b ws nw i) → tget T1 21 = dv → AccS A0.n A 1 (ints (en1 J (tkT J) b ws nw i)) dv → tget T1 86 = sl → tget T1 87 = .int .i64 n → tget T1 88 = .int .i64 i → Ext' A0 A → W AP KL g rd (.loop body120a) ⟨T1, D, A⟩ Q := by
  have hll := hel.1
  rw [ints_length] at hll
  intro r
  induction r with
  | zero =>
    intro i T1 A dv hir hk t20 t21 hacc t86 t87 t88 he
    have : i = n := by omega
    subst this
    rw [W_loop]
    simp (disch := as_aux_lemma => first | omega | simp only [hDs] <;> omega | simp [isCell]) [hRs, takeMarks, resA, resAll, resOne, Value.cells, eq120a, q0120, q1120, t87, t88]
    refine hend _ _ ?_ (by simp [t20]) he
    simp [hk.at 0 rfl, hk.at 5 rfl, hk.at 14 rfl, hk.at 15 rfl, hk.at 16 rfl, hk.at 17 rfl]
  | succ r ih =>
    intro i T1 A dv hir hk t20 t21 hacc t86 t87 t88 he
    have u13 := (hk.at 13 rfl).trans t13
    have u19 := (hk.at 19 rfl).trans t19
    obtain ⟨x, c, ro, row, rfl, hx, hat⟩ := (hsl.ext he).at (i := i) (by omega)
    have hA0 := he.1
    obtain ⟨j, hj⟩ : ∃ j, j = J i := ⟨_, rfl⟩
    have hp := hat i (by omega)
    rw [← hj] at hp
    obtain ⟨⟨l0, l1⟩, ⟨m0, m1⟩, v0, v1⟩ : JobOk j := hj ▸ hJ i
    obtain ⟨tk1, tk2, tk3⟩ := tk_bd hJ i
    have htkall : ∀ i, 0 ≤ tkT J i ∧ tkT J i ≤ 100000000 := fun i => by
      have := tk_bd hJ i
      obtain ⟨⟨_, _⟩, ⟨_, _⟩, _⟩ := hJ i
      omega
    have htke : tkT J i = j.lo + j.truth.tmod (j.more + 1) := by rw [hj]; rfl
    rw [← hj] at tk1 tk2 tk3
    have e1 := wrId (n := (i : Int) + 1) (by omega) (by omega)
    obtain ⟨B, hB⟩ : ∃ B, B = A.push (.cells (jobC j) false) := ⟨_, rfl⟩
    have hBn : B.n = A.n + 1 := by rw [hB]; rfl
    have eB : Ext' A B := by rw [hB]; exact Ext'.push A _
    have hXB : B.get A.n = some (.cells (jobC j) false) := by rw [hB, get_push_new]
    have hB' : A.push (.cells [.int .u16 j.lo, .int .u16 j.more, .int .u16 j.after, .bool j.calm, .int .u16 j.truth] false) = B := hB.symm
    obtain ⟨y, cy, ry, cells, rfl, hy, hyl, hsat⟩ := (hst.ext (he.trans eB)).at (i := i) (by omega)
    obtain ⟨a, _, _, p3, _, _, _, _, _, _, ra⟩ := hsat i (by omega)
    have ra' : RdS B 1 (aftL j.after i).length (ints (aftL j.after i)) a := by rw [hj]; exact ra
    obtain ⟨E, hE⟩ : ∃ E, E = en1 J (tkT J) b ws nw i := ⟨_, rfl⟩
    have hEl : E.length = i := by rw [hE]; exact en1_length _ _ _ _ _ _
    rw [← hE] at hacc
    have hbr : Bd 10000000000 (rd1 E b (aftL j.after i) (aftL j.after i).length) := by rw [hE, hj]; exact ready_bd htkall (by omega) hw (by omega) _
    obtain ⟨rv, hrv⟩ : ∃ rv, rv = rd1 E b (aftL j.after i) (aftL j.after i).length := ⟨_, rfl⟩
    have hne : nextE (en1 J (tkT J) b ws nw i) (J i) i (tkT J i) b ws nw = endV rv (tkT J i) j.calm ws nw := by rw [hrv, hE, hj]; rfl
    have hal := hin i (by omega)
    have haccB := hacc.mono eB.2
    have hla := ra'.len
    rw [W_loop]
    simp (disch := as_aux_lemma => first | omega | simp only [hDs] <;> omega | simp [isCell]) [hRs, takeMarks, resA, resAll, resOne, Value.cells, eq120a, q0120, q1120, pa120, pb120, pc120, u13, u19, t86, t87, t88, show ((i : Int) < n) by omega, idxSA_ok, hx, hp, jobC, storeB_cells, setRange, set_push_eq, hB', hy, p3, hla]
    refine loop120b (E := E) (b := b) (dv := dv) (i := i) ra' (haccB.rd (by rw [ints_length, hEl, Nat.mul_one]) (by decide)) (fun k hk => (aftL_at hk).1) (by have := aftL_length j.after i; omega) ?_ (T := _) ?_ (aftL j.after i).length 0 (by omega) (fun _ _ => rfl) (by simp) (by simp) (by simp) (by simp [rd1])
    · intro T2 k2 t24
      have v13 := k2.at 13 rfl
      have v14 := k2.at 14 rfl
      have v16 := k2.at 16 rfl
      have v20 := k2.at 20 rfl
      have v21 := k2.at 21 rfl
      have v22 := k2.at 22 rfl
      have v23 := k2.at 23 rfl
      have v86 := k2.at 86 rfl
      have v87 := k2.at 87 rfl
      have v88 := k2.at 88 rfl
      simp [hk.at 13 rfl, hk.at 14 rfl, hk.at 16 rfl, t13, t14, t16, t20, t21, t86, t87, t88] at v13 v14 v16 v20 v21 v22 v23 v86 v87 v88
      rw [← hrv] at t24 hbr
      have f1 := wrId (n := j.lo) (by omega) (by omega)
      have f2 := wrId (n := j.truth) (by omega) (by omega)
      have f3 := wrId (n := j.more) (by omega) (by omega)
      have f4 := wrId (n := j.more + 1) (by omega) (by omega)
      have f5 := wrId (n := j.lo + j.truth.tmod (j.more + 1)) (by omega) (by omega)
      have hXB' := hXB
      unfold jobC at hXB'
      simp (disch := as_aux_lemma => first | omega | simp only [hDs] <;> omega | simp [isCell]) [hRs, takeMarks, resA, resAll, resOne, Value.cells, pd120, pe120, v23, hXB', toIntA, f1, f2, f3, f4, binA_rem, f5, t24]
      refine pf120_ok (X := A.n) (nw := nw) (ws := ws) (wl := wl) (r := rv) (t := tkT J i) (j := j) hXB ((he.trans eB).rdS hwl) hnw hw hbr (htkall i) (by omega) (by simp [v14]) (by simp [v23]) (by simp [t24]) (by simp [htke]) (by simp [htke]) fun T3 A3 e k3 t28 hee e3 => ?_
      have n3 := e3.1
      have w24 := k3.at 24 rfl
      simp [t24] at w24
      simp (disch := as_aux_lemma => first | omega | simp only [hDs] <;> omega | simp [isCell]) [hRs, takeMarks, resA, resAll, resOne, Value.cells]
      refine pg120_ok (hbr.le (by unfold never; omega)) w24 t28 hee fun T4 k4 t28' => ?_
      rw [← hne] at t28'
      obtain ⟨ev, hev⟩ : ∃ ev, ev = nextE (en1 J (tkT J) b ws nw i) (J i) i (tkT J i) b ws nw := ⟨_, rfl⟩
      rw [← hev] at t28' hal
      have x16 := (k4.at 16 rfl).trans (k3.at 16 rfl)
      have x20 := (k4.at 20 rfl).trans (k3.at 20 rfl)
      have x21 := (k4.at 21 rfl).trans (k3.at 21 rfl)
      have x22 := (k4.at 22 rfl).trans (k3.at 22 rfl)
      have x86 := (k4.at 86 rfl).trans (k3.at 86 rfl)
      have x87 := (k4.at 87 rfl).trans (k3.at 87 rfl)
      have x88 := (k4.at 88 rfl).trans (k3.at 88 rfl)
      simp [v16, v20, v21, v22, v86, v87, v88] at x16 x20 x21 x22 x86 x87 x88
      have eB3 := eB.trans e3
      obtain ⟨dv', A5, ha5, hacc5, hk5, hn5, hb5⟩ := add_keep (g := g) (bytes := 8) (n := i) (ro := false) (new := [.int .i64 ev]) (hacc.mono eB3.2) hg (by omega) rfl (by decide) rfl (by rw [ints_length, hEl]; omega) (by unfold room; omega)
      have e05 : Ext' A0 A5 := ⟨by omega, fun z hz => by rw [hk5 z (by omega) (fun h => by have := (hacc.blk_ge h).1; omega), (he.trans eB3).2 z hz]⟩
      simp (disch := as_aux_lemma => first | omega | simp only [hDs] <;> omega | simp [isCell]) [hRs, takeMarks, resA, resAll, resOne, Value.cells, ph120, x20, x21, t28', slitA, fillA, setRange, ha5]
      have rel5 := e05.rdS hel
      obtain ⟨z, cz, rz, rfl, hz⟩ := rel5.at (i := i) (by omega)
      have hpe := ints_two (l := EL) (o := i * 2) (by omega)
      simp (disch := as_aux_lemma => first | omega | simp only [hDs] <;> omega | simp [isCell]) [hRs, takeMarks, resA, resAll, resOne, Value.cells, pi120, t28', x22]
      refine w141 (by omega) fun A6 e6 => ?_
      have hz6 := e6.get hz
      simp (disch := as_aux_lemma => first | omega | simp only [hDs] <;> omega | simp [isCell]) [hRs, takeMarks, resA, resAll, resOne, Value.cells, x16, x22, idxSA_ok, hz6, hpe, show ((i : Int) < n) by omega]
      refine w140 hal.1 hal.2 (Int.le_refl _) fun A7 e7 => ?_
      simp (disch := as_aux_lemma => first | omega | simp only [hDs] <;> omega | simp [isCell]) [hRs, takeMarks, resA, resAll, resOne, Value.cells, q2120, x88]
      refine ih (i + 1) (dv := dv') (by omega) ?_ ?_ (by simp) ?_ (by simp [x86]) (by simp [x87]) (by simp [x88, e1]) (e05.trans (e6.trans e7))
      · simp [k4.at 0 rfl, k3.at 0 rfl, k2.at 0 rfl, hk.at 0 rfl, k4.at 5 rfl, k3.at 5 rfl, k2.at 5 rfl, hk.at 5 rfl, k4.at 13 rfl, k3.at 13 rfl, k2.at 13 rfl, hk.at 13 rfl, k4.at 14 rfl, k3.at 14 rfl, k2.at 14 rfl, hk.at 14 rfl, k4.at 15 rfl, k3.at 15 rfl, k2.at 15 rfl, hk.at 15 rfl, k4.at 16 rfl, k3.at 16 rfl, k2.at 16 rfl, hk.at 16 rfl, k4.at 17 rfl, k3.at 17 rfl, k2.at 17 rfl, hk.at 17 rfl, k4.at 19 rfl, k3.at 19 rfl, k2.at 19 rfl, hk.at 19 rfl]
      · simp [al1, ← hev]
      · rw [en1, ← hev, ints_append]
        exact (hE ▸ hacc5).mono (e6.trans e7).2
    · simp [t21]
end
end Go.Ab.Dike
