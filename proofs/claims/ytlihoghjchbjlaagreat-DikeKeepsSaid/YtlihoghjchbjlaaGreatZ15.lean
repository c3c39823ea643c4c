/- DikeKeeps: the loop over the walls. -/
import Derived.Test.YtlihoghjchbjlaaGreatZ14
set_option linter.unusedSimpArgs false
set_option linter.unusedVariables false
set_option linter.unusedSectionVars false
namespace Go.Ab.Dike
open Go Go.Ab
def upN (up : Bool) : Nat := if up then 1 else 0
def sPar (up : Bool) (w h : Int) (zs : List Int) : SPar := ⟨8, fun c => gi zs (c * 2 + upN up), fun c => (nbrs w h c).map Int.toNat, [0]⟩
theorem gridE_parts {w h s : Int} {m : Nat} {zs : List Int} (h0 : gridE w h s m zs = 0) : (1 ≤ w ∧ w ≤ 24) ∧ (1 ≤ h ∧ h ≤ 24) ∧ (m : Int) = w * h ∧ ∀ i, i < m → -1200000 ≤ gi zs (i * 2) ∧ gi zs (i * 2) ≤ gi zs (i * 2 + 1) ∧ gi zs (i * 2 + 1) ≤ 1200000 := by
  unfold gridE at h0
  split at h0
  · cases h0
  · rename_i h1
    split at h0
    · cases h0
    · rename_i h2
      split at h0
      · cases h0
      · rename_i h3
        simp only [not_or, Bool.not_eq_false, Bool.and_eq_true, decide_eq_true_eq] at h1
        simp only [Decidable.not_not] at h2
        have m1 : w * h ≤ 24 * 24 := Int.mul_le_mul (by omega) (by omega) (by omega) (by omega)
        have m2 : 0 ≤ w * h := Int.mul_nonneg (by omega) (by omega)
        rw [wrId (by omega) (by omega)] at h2
        refine ⟨by omega, by omega, h2, fun i hi => ?_⟩
        rw [List.any_eq_true] at h3
        have hgr : grd zs i = true := by
          cases hgr : grd zs i
          · exact absurd ⟨i, by simpa using hi, by rw [hgr]; rfl⟩ h3
          · rfl
        simp only [grd, validB, Bool.and_eq_true, decide_eq_true_eq] at hgr
        omega
theorem sPar_line {up : Bool} {w h s : Int} {zs : List Int} (hE : gridE w h s 8 zs = 0) : SLine (sPar up w h zs) w h := by
  obtain ⟨hw, hh, hm, hv⟩ := gridE_parts hE
  have hm' : w * h = 8 := by omega
  refine ⟨⟨fun c hc d hd => ?_, fun c hc => ?_, fun c hc => ?_⟩, rfl, rfl, hw, hh, hm', fun _ _ => rfl⟩
  · obtain ⟨x, hx, rfl⟩ := List.mem_map.1 hd
    have := nbrs_range hw.1 hx
    show x.toNat < 8
    omega
  · have : c = 0 := by simpa [sPar] using hc
    subst this; show 0 < 8; omega
  · have := hv c hc
    show _ ≤ gi zs (c * 2 + upN up) ∧ gi zs (c * 2 + upN up) ≤ _
    cases up
    · show _ ≤ gi zs (c * 2) ∧ gi zs (c * 2) ≤ _
      omega
    · show _ ≤ gi zs (c * 2 + 1) ∧ gi zs (c * 2 + 1) ≤ _
      omega
def endF (up : Bool) : Value := .func (.func (if up then 274 else 273)) ⟨[]⟩ ⟨[]⟩
section
variable {g : Nat} {rd : Option Nat} {T : List Value} {D : List Nat} {A : Hp} {Q : Ex → St → Prop} {V : Value → Hp → Prop}
theorem wEnd {up : Bool} {a b : Int} (hV : ∀ A', Ext' A A' → V (.int .i64 (if up then b else a)) A') : WV AP KL g (endF up) [.agg ⟨[.int .i64 a, .int .i64 b]⟩] A V := by
  cases up
  · unfold endF
    simp (disch := as_aux_lemma => first | omega | simp only [hDs] <;> omega | simp [isCell]) [hRs, takeMarks, resA, resAll, resOne, Value.cells]
    rw [WF_body (show KL 273 = none from rfl) (show AP 273 = some F273 from rfl)]
    simp (disch := as_aux_lemma => first | omega | simp only [hDs] <;> omega | simp [isCell]) [hRs, takeMarks, resA, resAll, resOne, Value.cells, F273]
    exact hV _ (Ext'.push A _)
  · unfold endF
    simp (disch := as_aux_lemma => first | omega | simp only [hDs] <;> omega | simp [isCell]) [hRs, takeMarks, resA, resAll, resOne, Value.cells]
    rw [WF_body (show KL 274 = none from rfl) (show AP 274 = some F274 from rfl)]
    simp (disch := as_aux_lemma => first | omega | simp only [hDs] <;> omega | simp [isCell]) [hRs, takeMarks, resA, resAll, resOne, Value.cells, F274]
    exact hV _ (Ext'.push A _)
theorem htok {up : Bool} {w h s : Int} {zs : List Int} {sl : Value} {b1 X : Nat} {r1 r2 : Bool} (hb1 : A.get b1 = some (.cells [endF up] r1)) (hX : A.get X = some (.cells [.int .i64 w, .int .i64 h, .int .i64 s, sl] r2)) (hsl : RdS A 2 8 (ints zs) sl) :
    HtOk g (sPar up w h zs) A A.n (.func (.func 270) ⟨[]⟩ ⟨[.pointer (some ⟨b1, 0, none⟩), .pointer (some ⟨X, 0, none⟩)]⟩) := by
  intro B d V hB hn hd hV
  have q1 : B.get b1 = some (.cells [endF up] r1) := by rw [hB b1 (Hp.lt_of_get hb1)]; exact hb1
  have q2 : B.get X = some (.cells [.int .i64 w, .int .i64 h, .int .i64 s, sl] r2) := by rw [hB X (Hp.lt_of_get hX)]; exact hX
  have hd8 : d < 8 := hd
  obtain ⟨z, c, ro, rfl, hz⟩ := hsl.at hd8
  have q3 := (hB z (Hp.lt_of_get hz)).trans hz
  have hl := hsl.1
  rw [ints_length] at hl
  have i2 := ints_two (l := zs) (o := d * 2) (by omega)
  simp (disch := as_aux_lemma => first | omega | simp only [hDs] <;> omega | simp [isCell]) [hRs, takeMarks, resA, resAll, resOne, Value.cells]
  rw [WF_body (show KL 270 = none from rfl) (show AP 270 = some F270 from rfl)]
  simp (disch := as_aux_lemma => first | omega | simp only [hDs] <;> omega | simp [isCell]) [hRs, takeMarks, resA, resAll, resOne, Value.cells, F270, q1, q2, q3, show (d : Int) < 8 by omega, idxSA_ok, i2]
  refine wEnd fun A' e' => ?_
  simp (disch := as_aux_lemma => first | omega | simp only [hDs] <;> omega | simp [isCell]) [hRs, takeMarks, resA, resAll, resOne, Value.cells]
  have := hV A' e'
  cases up <;> exact this
theorem w268 {up : Bool} {w h s : Int} {zs : List Int} {sl : Value} {X S z : Nat} {ro r2 r3 : Bool} (hE : gridE w h s 8 zs = 0) (hX : A.get X = some (.cells [.int .i64 w, .int .i64 h, .int .i64 s, sl] r2)) (hS : A.get S = some (.cells [.slice (some ⟨z, 0, some 1⟩) 1 1] r3)) (hz : A.get z = some (.cells [.int .i64 0] ro)) (hsl : RdS A 2 8 (ints zs) sl) (hg : g ≤ A.n)
    (hV : ∀ A' o OB, SFin (sPar up w h zs) o → Ext' A A' → A.n ≤ OB → A'.get OB = some (.cells (ints o) false) → V (rowS1 OB 8) A') : WF AP KL g 268 [endF up, .pointer (some ⟨X, 0, none⟩), .pointer (some ⟨S, 0, none⟩)] A V := by
  rw [WF_body (show KL 268 = none from rfl) (show AP 268 = some F268 from rfl)]
  obtain ⟨B, hB⟩ : ∃ B, B = A.push (.cells [endF up] false) := ⟨_, rfl⟩
  have eB : Ext' A B := by rw [hB]; exact Ext'.push A _
  have hBn : B.n = A.n + 1 := by rw [hB]; rfl
  have b1 : B.get A.n = some (.cells [endF up] false) := by rw [hB, get_push_new]
  have hB' := hB.symm
  unfold endF at hB'
  unfold endF
  simp (disch := as_aux_lemma => first | omega | simp only [hDs] <;> omega | simp [isCell]) [hRs, takeMarks, resA, resAll, resOne, Value.cells, F268, hB', eB.get hX, eB.get hS]
  refine w269 (sPar_line (up := up) (s := s) hE) hsl.len (eB.get hz) rfl (htok (A := B) b1 (eB.get hX) (eB.rdS hsl)) (by omega) fun A' o OB k1 k2 k3 k4 => ?_
  unfold rowS1
  simp (disch := as_aux_lemma => first | omega | simp only [hDs] <;> omega | simp [isCell]) [hRs, takeMarks, resA, resAll, resOne, Value.cells]
  exact hV A' o OB k1 (eB.trans k2) (by omega) k4
theorem w271 {a b : Int} (hV : ∀ A', Ext' A A' → V (.agg ⟨[.int .i64 a, .int .i64 b]⟩) A') (hg : g ≤ A.n) : WF AP KL g 271 [.int .i64 a, .int .i64 b] A V := by
  rw [WF_body (show KL 271 = none from rfl) (show AP 271 = some F271 from rfl)]
  simp (disch := as_aux_lemma => first | omega | simp only [hDs] <;> omega | simp [isCell]) [hRs, takeMarks, resA, resAll, resOne, Value.cells, F271, fillA, setRange, storeB_cells, set_push_eq, setRange_all]
  exact hV _ (Ext'.push A _)
end
end Go.Ab.Dike
namespace Go.Ab.Dike
open Go Go.Ab
def pairI (lo up : List Int) (i : Nat) : List Int := (List.range i).flatMap fun j => [gi lo j, gi up j]
theorem pairI_succ {lo up : List Int} {i : Nat} : pairI lo up (i + 1) = pairI lo up i ++ [gi lo i, gi up i] := by
  unfold pairI; rw [List.range_succ, List.flatMap_append]; simp
theorem pairI_len {lo up : List Int} : ∀ {i : Nat}, (pairI lo up i).length = i * 2
  | 0 => rfl
  | i + 1 => by rw [pairI_succ, List.length_append, pairI_len]; simp; omega
theorem gi_l {l r : List Int} {i : Nat} (h : i < l.length) : gi (l ++ r) i = gi l i := by
  unfold gi; rw [List.getD_eq_getElem?_getD, List.getD_eq_getElem?_getD, List.getElem?_append_left h]
theorem gi_r {l r : List Int} {i j : Nat} (h : l.length = i) : gi (l ++ r) (i + j) = gi r j := by
  unfold gi; rw [List.getD_eq_getElem?_getD, List.getD_eq_getElem?_getD, List.getElem?_append_right (by omega), show i + j - l.length = j by omega]
theorem pairI_get {lo up : List Int} : ∀ {i j : Nat}, j < i → gi (pairI lo up i) (j * 2) = gi lo j ∧ gi (pairI lo up i) (j * 2 + 1) = gi up j
  | i + 1, j, h => by
    rw [pairI_succ]
    have hl := pairI_len (lo := lo) (up := up) (i := i)
    by_cases hj : j = i
    · subst hj
      exact ⟨gi_r (j := 0) hl, gi_r (j := 1) hl⟩
    · rw [gi_l (by omega), gi_l (by omega)]
      exact pairI_get (by omega)
section
variable {g : Nat} {rd : Option Nat} {T : List Value} {D : List Nat} {A : Hp} {Q : Ex → St → Prop} {V : Value → Hp → Prop}
theorem loop267 {N X1 X2 : Nat} {A0 : Hp} {lo up : List Int} (hl1 : lo.length = 8) (hl2 : up.length = 8) (h1 : A0.get X1 = some (.cells (ints lo) false)) (h2 : A0.get X2 = some (.cells (ints up) false)) (hN : A0.n = N) (hg : g ≤ N)
    (t1 : tget T 1 = .func (.func 271) ⟨[]⟩ ⟨[]⟩) (t6 : tget T 6 = rowS1 X1 8) (t7 : tget T 7 = rowS1 X2 8) (t13 : tget T 13 = rowS1 X1 8) (t14 : tget T 14 = .int .i64 8)
    (hQ : ∀ T' A' sv, tget T' 5 = sv → AccS N A' 2 (ints (pairI lo up 8)) sv → Ext' A0 A' → Q (.exit 0) ⟨T', D, A'⟩) :
    ∀ (k i : Nat) {T1 : List Value} {A : Hp} {sv : Value}, i + k = 8 → KeepT [1, 6, 7, 13, 14] T T1 → tget T1 5 = sv → tget T1 15 = .int .i64 i → AccS N A 2 (ints (pairI lo up i)) sv → Ext' A0 A → W AP KL g rd (.loop body267) ⟨T1, D, A⟩ Q := by
  intro k
  induction k with
  | zero =>
    intro i T1 A sv hik hk t5 t15 hacc he
    have : i = 8 := by omega
    subst this
    have u14 := (hk.at 14 rfl).trans t14
    rw [W_loop]
    simp (disch := as_aux_lemma => first | omega | simp only [hDs] <;> omega | simp [isCell]) [hRs, takeMarks, resA, resAll, resOne, Value.cells, body267, u14, t15]
    exact hQ _ A sv (by simp [t5]) hacc he
  | succ k ih =>
    intro i T1 A sv hik hk t5 t15 hacc he
    have u1 := (hk.at 1 rfl).trans t1
    have u6 := (hk.at 6 rfl).trans t6
    have u7 := (hk.at 7 rfl).trans t7
    have u14 := (hk.at 14 rfl).trans t14
    unfold rowS1 at u6 u7
    have i1 := ints_get (l := lo) (o := i) (by omega)
    have i2 := ints_get (l := up) (o := i) (by omega)
    have e3 : wr .i64 ((i : Int) + 1) = ((i + 1 : Nat) : Int) := by rw [wrId (by omega) (by omega)]; simp
    have hn := he.1
    rw [W_loop]
    simp (disch := as_aux_lemma => first | omega | simp only [hDs] <;> omega | simp [isCell]) [hRs, takeMarks, resA, resAll, resOne, Value.cells, body267, t5, t15, u14, show (i : Int) < 8 by omega, show i < 8 by omega, u1, u6, u7, idxSA_ok, he.get h1, he.get h2, i1, i2]
    refine w271 (fun A2 e2 => ?_) (by omega)
    have hn2 := e2.1
    obtain ⟨sv', A3, ha, hacc', hold', hn3⟩ := AccS.add (g := g) (bytes := 16) (n := i) (ro := false) (new := [.int .i64 (gi lo i), .int .i64 (gi up i)]) (hacc.mono fun x hx => e2.2 x hx) hg (by omega) rfl (by decide) rfl (by rw [ints_length, pairI_len]) (by unfold room; omega)
    simp (disch := as_aux_lemma => first | omega | simp only [hDs] <;> omega | simp [isCell]) [hRs, takeMarks, resA, resAll, resOne, Value.cells, t5, t15, slitA, fillA, setRange, ha, e3]
    exact ih (i + 1) (sv := sv') (by omega) (hk.trans (by simp)) (by simp) (by simp) (by rw [pairI_succ, ints_append]; exact hacc') ⟨by omega, fun z hz => by rw [hold' z (by omega), (he.trans e2).2 z hz]⟩
theorem w267 {w h s : Int} {zs : List Int} {sl : Value} {X S z : Nat} {ro r2 r3 : Bool} (hE : gridE w h s 8 zs = 0) (hX : A.get X = some (.cells [.int .i64 w, .int .i64 h, .int .i64 s, sl] r2)) (hS : A.get S = some (.cells [.slice (some ⟨z, 0, some 1⟩) 1 1] r3)) (hz : A.get z = some (.cells [.int .i64 0] ro)) (hsl : RdS A 2 8 (ints zs) sl) (hg : g ≤ A.n)
    (hV : ∀ A' lo up sv, SFin (sPar false w h zs) lo → SFin (sPar true w h zs) up → Ext' A A' → RdS A' 2 8 (ints (pairI lo up 8)) sv → (∀ b, blkOf sv = some b → A.n ≤ b) → V sv A') : WF AP KL g 267 [.func (.func 268) ⟨[]⟩ ⟨[.pointer (some ⟨X, 0, none⟩), .pointer (some ⟨S, 0, none⟩)]⟩, .func (.func 271) ⟨[]⟩ ⟨[]⟩] A V := by
  rw [WF_body (show KL 267 = none from rfl) (show AP 267 = some F267 from rfl)]
  simp (disch := as_aux_lemma => first | omega | simp only [hDs] <;> omega | simp [isCell]) [hRs, takeMarks, resA, resAll, resOne, Value.cells, F267]
  refine w268 (up := false) hE hX hS hz hsl hg fun A1 lo X1 k1 k2 k3 k4 => ?_
  have n1 := k2.1
  simp (disch := as_aux_lemma => first | omega | simp only [hDs] <;> omega | simp [isCell]) [hRs, takeMarks, resA, resAll, resOne, Value.cells]
  refine w268 (up := true) hE (k2.get hX) (k2.get hS) (k2.get hz) (k2.rdS hsl) (by omega) fun A2 up X2 q1 q2 q3 q4 => ?_
  have n2 := q2.1
  unfold rowS1
  simp (disch := as_aux_lemma => first | omega | simp only [hDs] <;> omega | simp [isCell]) [hRs, takeMarks, resA, resAll, resOne, Value.cells]
  refine loop267 (A0 := A2) (N := A2.n) (X1 := X1) (X2 := X2) (lo := lo) (up := up) k1.len q1.len (q2.get k4) q4 rfl (by omega) (T := _) ?_ ?_ ?_ ?_ ?_ (fun T' A3 sv t5 hacc he => ?_) 8 0 rfl (fun _ _ => rfl) rfl ?_ ?_ (Ext'.refl _)
  · simp
  · simp [rowS1]
  · simp [rowS1]
  · simp [rowS1]
  · simp
  · simp (disch := as_aux_lemma => first | omega | simp only [hDs] <;> omega | simp [isCell]) [hRs, takeMarks, resA, resAll, resOne, Value.cells, t5]
    refine hV A3 lo up sv k1 q1 ((k2.trans q2).trans he) (hacc.rd (by rw [ints_length, pairI_len]) (by decide)) fun b hb => ?_
    have := (hacc.blk_ge hb).1
    omega
  · simp
  · simp [pairI]
    exact .inl ⟨by simp, rfl⟩
theorem w272 {w h s : Int} {sl : Value} {X : Nat} {r2 : Bool} {m : Nat} (hm : m < 1000000) (hX : A.get X = some (.cells [.int .i64 w, .int .i64 h, .int .i64 s, sl] r2)) (hl : lenV sl = some (.int .i64 m)) {c : Int} (hV : V (.bool (!(decide (0 ≤ c) && decide (c ≤ (m : Int) - 1)))) A) : WF AP KL g 272 [.int .i64 c, .pointer (some ⟨X, 0, none⟩)] A V := by
  rw [WF_body (show KL 272 = none from rfl) (show AP 272 = some F272 from rfl)]
  simp (disch := as_aux_lemma => first | omega | simp only [hDs] <;> omega | simp [isCell]) [hRs, takeMarks, resA, resAll, resOne, Value.cells, F272, hX, hl, wrId (n := (m : Int) - 1) (by omega) (by omega)]
  refine w55 ?_
  simp (disch := as_aux_lemma => first | omega | simp only [hDs] <;> omega | simp [isCell]) [hRs, takeMarks, resA, resAll, resOne, Value.cells]
  simpa using hV
theorem w266 {w h s : Int} {zs : List Int} {sl : Value} {z : Nat} {ro : Bool} (hE : gridE w h s 8 zs = 0) (hz : A.get z = some (.cells [.int .i64 0] ro)) (hsl : RdS A 2 8 (ints zs) sl)
    (hV : ∀ A', Ext' A A' → V (.int .i64 0) A') : WF AP KL g 266 [gridV w h s sl, .slice (some ⟨z, 0, some 1⟩) 1 1] A V := by
  rw [WF_body (show KL 266 = none from rfl) (show AP 266 = some F266 from rfl)]
  obtain ⟨B, hB⟩ : ∃ B, B = A.push (.cells [.int .i64 w, .int .i64 h, .int .i64 s, sl] false) := ⟨_, rfl⟩
  have eB : Ext' A B := by rw [hB]; exact Ext'.push A _
  have hX : B.get A.n = some (.cells [.int .i64 w, .int .i64 h, .int .i64 s, sl] false) := by rw [hB, get_push_new]
  simp (disch := as_aux_lemma => first | omega | simp only [hDs] <;> omega | simp [isCell]) [hRs, takeMarks, resA, resAll, resOne, Value.cells, F266, gridV, ← hB, hX]
  refine w37 (eB.rdS hsl) (by omega) fun A1 e1 => ?_
  rw [hE]
  simp (disch := as_aux_lemma => first | omega | simp only [hDs] <;> omega | simp [isCell]) [hRs, takeMarks, resA, resAll, resOne, Value.cells]
  refine w180 (n := 1) (row := [.int .i64 0]) (val := fun _ => .int .i64 0) (p := fun _ => false) ⟨by simp, .inr ⟨z, 1, ro, rfl, (eB.trans e1).get hz⟩⟩ (fun i hi => ?_) (fun i hi A2 V2 e2 hV2 => ?_) (by omega) fun A2 e2 => ?_
  · have : i = 0 := by omega
    subst this; rfl
  · simp (disch := as_aux_lemma => first | omega | simp only [hDs] <;> omega | simp [isCell]) [hRs, takeMarks, resA, resAll, resOne, Value.cells]
    refine w272 (m := 8) (by omega) ((e1.trans e2).get hX) hsl.len ?_
    exact hV2 A2 (Ext'.refl _)
  · simp (disch := as_aux_lemma => first | omega | simp only [hDs] <;> omega | simp [isCell]) [hRs, takeMarks, resA, resAll, resOne, Value.cells]
    exact hV A2 ((eB.trans e1).trans e2)
theorem w265 {w h s : Int} {zs : List Int} {sl : Value} {z : Nat} {ro : Bool} (hE : gridE w h s 8 zs = 0) (hz : A.get z = some (.cells [.int .i64 0] ro)) (hsl : RdS A 2 8 (ints zs) sl) (hg : g ≤ A.n)
    (hV : ∀ A' lo up sv, SFin (sPar false w h zs) lo → SFin (sPar true w h zs) up → Ext' A A' → RdS A' 2 8 (ints (pairI lo up 8)) sv → (∀ b, blkOf sv = some b → A.n ≤ b) → V (.tuple ⟨[sv, .int .i64 0]⟩) A') : WF AP KL g 265 [gridV w h s sl, .slice (some ⟨z, 0, some 1⟩) 1 1] A V := by
  rw [WF_body (show KL 265 = none from rfl) (show AP 265 = some F265 from rfl)]
  obtain ⟨B, hB⟩ : ∃ B, B = (A.push (.cells [.int .i64 w, .int .i64 h, .int .i64 s, sl] false)).push (.cells [.slice (some ⟨z, 0, some 1⟩) 1 1] false) := ⟨_, rfl⟩
  have eB : Ext' A B := by rw [hB]; exact (Ext'.push A _).trans (Ext'.push _ _)
  have hBn : B.n = A.n + 2 := by rw [hB]; rfl
  have hX : B.get A.n = some (.cells [.int .i64 w, .int .i64 h, .int .i64 s, sl] false) := by rw [hB, get_push_old (by simp), get_push_new]
  have hS : B.get (A.n + 1) = some (.cells [.slice (some ⟨z, 0, some 1⟩) 1 1] false) := by rw [hB, get_push_eq (by simp)]
  simp (disch := as_aux_lemma => first | omega | simp only [hDs] <;> omega | simp [isCell]) [hRs, takeMarks, resA, resAll, resOne, Value.cells, F265, gridV, ← hB, hX, hS]
  refine w266 hE (eB.get hz) (eB.rdS hsl) fun A1 e1 => ?_
  have n1 := e1.1
  have hBe := eB.trans e1
  simp (disch := as_aux_lemma => first | omega | simp only [hDs] <;> omega | simp [isCell]) [hRs, takeMarks, resA, resAll, resOne, Value.cells]
  refine w267 hE (e1.get hX) (e1.get hS) (hBe.get hz) (hBe.rdS hsl) (by omega) fun A2 lo up sv k1 k2 k3 k4 k5 => ?_
  simp (disch := as_aux_lemma => first | omega | simp only [hDs] <;> omega | simp [isCell]) [hRs, takeMarks, resA, resAll, resOne, Value.cells]
  exact hV A2 lo up sv k1 k2 (hBe.trans k3) k4 fun b hb => by have := k5 b hb; omega
end
end Go.Ab.Dike
namespace Go.Ab.Dike
open Go Go.Ab
def gB (l : List Bool) (i : Nat) : Bool := l.getD i false
def flS (a : Int) (rs : List Int) (o : Nat) (n : Nat) : List Bool := (List.range n).map fun i => decide (gi rs (i * 2 + o) < a)
theorem flS_succ {a : Int} {rs : List Int} {o n : Nat} : bools (flS a rs o (n + 1)) = bools (flS a rs o n) ++ [.bool (decide (gi rs (n * 2 + o) < a))] := by
  unfold flS bools; rw [List.range_succ]; simp
theorem flS_len {a : Int} {rs : List Int} {o n : Nat} : (bools (flS a rs o n)).length = n := by simp [bools, flS]
section
variable {g : Nat} {rd : Option Nat} {T : List Value} {D : List Nat} {A : Hp} {Q : Ex → St → Prop} {V : Value → Hp → Prop}
theorem w58s {a b : Int} (hV : ∀ A', Ext' A A' → V (.bool (validB a b (-20000) 20000)) A') : WF AP KL g 58 [.agg ⟨[.int .i64 a, .int .i64 b]⟩, .int .i64 20000] A V := by
  rw [WF_body (show KL 58 = none from rfl) (show AP 58 = some F58 from rfl)]
  have e1 : wr .i64 (-20000) = -20000 := by decide
  have hV' := hV _ (Ext'.push A (.cells [.int .i64 a, .int .i64 b] false))
  by_cases h : a ≤ b
  · by_cases h2 : -20000 ≤ a
    · simp (disch := as_aux_lemma => first | omega | simp only [hDs] <;> omega | simp [isCell]) [hRs, takeMarks, resA, resAll, resOne, Value.cells, F58, h, h2, e1]
      simpa [validB, h, h2] using hV'
    · simp (disch := as_aux_lemma => first | omega | simp only [hDs] <;> omega | simp [isCell]) [hRs, takeMarks, resA, resAll, resOne, Value.cells, F58, h, h2, e1]
      simpa [validB, h, h2] using hV'
  · simp (disch := as_aux_lemma => first | omega | simp only [hDs] <;> omega | simp [isCell]) [hRs, takeMarks, resA, resAll, resOne, Value.cells, F58, h]
    simpa [validB, h] using hV'
theorem loop253 {N X5 : Nat} {A0 : Hp} {rs : List Int} {sl : Value} {a b : Int} (hsl : RdS A0 2 8 (ints rs) sl) (hX5 : A0.get X5 = some (.cells [.int .i64 a, .int .i64 b] false)) (hN : A0.n = N) (hg : g ≤ N)
    (t5 : tget T 5 = .pointer (some ⟨X5, 0, none⟩)) (t26 : tget T 26 = sl) (t27 : tget T 27 = .int .i64 8)
    (hQ : ∀ T' A' s6 s7, tget T' 6 = s6 → tget T' 7 = s7 → AccS N A' 1 (bools (flS a rs 1 8)) s6 → AccS N A' 1 (bools (flS b rs 0 8)) s7 → Ext' A0 A' → Q (.exit 1) ⟨T', D, A'⟩) :
    ∀ (k i : Nat) {T1 : List Value} {A : Hp} {s6 s7 : Value}, i + k = 8 → KeepT [5, 26, 27] T T1 → tget T1 6 = s6 → tget T1 7 = s7 → tget T1 28 = .int .i64 i → AccS N A 1 (bools (flS a rs 1 i)) s6 → AccS N A 1 (bools (flS b rs 0 i)) s7 → (∀ z, blkOf s6 = some z → blkOf s7 ≠ some z) → Ext' A0 A → W AP KL g rd (.loop body253) ⟨T1, D, A⟩ Q := by
  intro k
  induction k with
  | zero =>
    intro i T1 A s6 s7 hik hk t6 t7 t28 h6 h7 hd he
    have : i = 8 := by omega
    subst this
    have u27 := (hk.at 27 rfl).trans t27
    rw [W_loop]
    simp (disch := as_aux_lemma => first | omega | simp only [hDs] <;> omega | simp [isCell]) [hRs, takeMarks, resA, resAll, resOne, Value.cells, body253, u27, t28]
    exact hQ _ A s6 s7 (by simp [t6]) (by simp [t7]) h6 h7 he
  | succ k ih =>
    intro i T1 A s6 s7 hik hk t6 t7 t28 h6 h7 hd he
    have u5 := (hk.at 5 rfl).trans t5
    have u26 := (hk.at 26 rfl).trans t26
    have u27 := (hk.at 27 rfl).trans t27
    obtain ⟨x, c, ro, rfl, hx⟩ := hsl.at (i := i) (by omega)
    have hll := hsl.1
    rw [ints_length] at hll
    have i2 := ints_two (l := rs) (o := i * 2) (by omega)
    have e3 : wr .i64 ((i : Int) + 1) = ((i + 1 : Nat) : Int) := by rw [wrId (by omega) (by omega)]; simp
    have hn := he.1
    have hx5n := Hp.lt_of_get hX5
    obtain ⟨A1, hA1⟩ : ∃ A1, A1 = A.push (.cells [.int .i64 (gi rs (i * 2)), .int .i64 (gi rs (i * 2 + 1))] false) := ⟨_, rfl⟩
    have e1 : Ext' A A1 := by rw [hA1]; exact Ext'.push A _
    have hn1 : A1.n = A.n + 1 := by rw [hA1]; rfl
    have b11 : A1.get A.n = some (.cells [.int .i64 (gi rs (i * 2)), .int .i64 (gi rs (i * 2 + 1))] false) := by rw [hA1, get_push_new]
    have h6a : AccS N A1 1 (bools (flS a rs 1 i)) s6 := h6.mono e1.2
    have h7a : AccS N A1 1 (bools (flS b rs 0 i)) s7 := h7.mono e1.2
    obtain ⟨s6', A2, ha, acc2, hold2, hn2, hb2⟩ := add_keep (g := g) (bytes := 1) (n := i) (ro := false) (new := [.bool (decide (gi rs (i * 2 + 1) < a))]) h6a hg (by omega) rfl (by decide) rfl (by rw [flS_len]; omega) (by unfold room; omega)
    have hX52 : A2.get X5 = some (.cells [.int .i64 a, .int .i64 b] false) := by rw [hold2 X5 (by omega) (fun h => by have := (h6a.blk_ge h).1; omega)]; exact (he.trans e1).get hX5
    have b12 : A2.get A.n = some (.cells [.int .i64 (gi rs (i * 2)), .int .i64 (gi rs (i * 2 + 1))] false) := by rw [hold2 A.n (by omega) (fun h => by have := (h6.blk_ge h).2; omega)]; exact b11
    have acc7 : AccS N A2 1 (bools (flS b rs 0 i)) s7 := AccS.keepB h7a fun z hz => hold2 z (h7a.blk_ge hz).2 fun h => hd z h hz
    obtain ⟨s7', A3, ha3, acc3, hold3, hn3, hb3⟩ := add_keep (g := g) (bytes := 1) (n := i) (ro := false) (new := [.bool (decide (gi rs (i * 2) < b))]) acc7 hg (by omega) rfl (by decide) rfl (by rw [flS_len]; omega) (by unfold room; omega)
    have acc6 : AccS N A3 1 (bools (flS a rs 1 i) ++ [.bool (decide (gi rs (i * 2 + 1) < a))]) s6' := AccS.keepB acc2 fun z hz => hold3 z (acc2.blk_ge hz).2 fun h => by
      have q1 := Option.some.inj (hb2.symm.trans hz)
      have := (h7a.blk_ge h).2
      omega
    have hsf : s6 = .slice none 0 0 ∨ ∃ y m, s6 = .slice (some ⟨y, 0, some 1⟩) m m ∧ y ≠ X5 ∧ y ≠ A.n := by
      rcases h6 with ⟨h, _⟩ | ⟨y, m, h, hy, hy2, _⟩
      · exact .inl h
      · have := Hp.lt_of_get hy
        exact .inr ⟨y, m, h, by omega, by omega⟩
    have hfin : ∀ {T'' : List Value}, KeepT [5, 26, 27] T1 T'' → tget T'' 6 = s6' → tget T'' 7 = s7' → tget T'' 28 = .int .i64 ((i + 1 : Nat) : Int) → W AP KL g rd (.loop body253) ⟨T'', D, A3⟩ Q := fun hk2 u6 u7 u28 => by
      refine ih (i + 1) (s6 := s6') (s7 := s7') (by omega) (hk.trans hk2) u6 u7 u28 (by rw [flS_succ]; exact acc6) (by rw [flS_succ]; exact acc3) (fun z hz h => ?_) ⟨by omega, fun z hz => ?_⟩
      · have q1 := Option.some.inj (hb2.symm.trans hz)
        have q2 := Option.some.inj (hb3.symm.trans h)
        have := (acc2.blk_ge hb2).2
        omega
      · rw [hold3 z (by omega) (fun h => by have := (h7a.blk_ge h).1; omega), hold2 z (by omega) (fun h => by have := (h6a.blk_ge h).1; omega), (he.trans e1).2 z (by omega)]
    rw [W_loop]
    rcases hsf with h | ⟨y, m, h, hy1, hy2⟩
    · subst h
      simp (disch := as_aux_lemma => first | omega | simp only [hDs] <;> omega | simp [isCell]) [hRs, takeMarks, resA, resAll, resOne, Value.cells, body253, t6, t7, t28, u5, u26, u27, show (i : Int) < 8 by omega, show i < 8 by omega, idxSA_ok, he.get hx, i2, storeB_cells, setRange, set_push_eq, setRange_all, ← hA1, b11, (he.trans e1).get hX5, slitA, fillA, ha, hX52, b12, ha3, apartA, e3]
      exact hfin (by simp) (by simp) (by simp) (by simp)
    · subst h
      simp (disch := as_aux_lemma => first | omega | simp only [hDs] <;> omega | simp [isCell]) [hRs, takeMarks, resA, resAll, resOne, Value.cells, body253, t6, t7, t28, u5, u26, u27, show (i : Int) < 8 by omega, show i < 8 by omega, idxSA_ok, he.get hx, i2, storeB_cells, setRange, set_push_eq, setRange_all, ← hA1, b11, (he.trans e1).get hX5, slitA, fillA, ha, hX52, b12, ha3, apartA, e3, hy1, hy2, Ne.symm hy1, Ne.symm hy2]
      exact hfin (by simp) (by simp) (by simp) (by simp)
theorem w253 {w h s : Int} {zs : List Int} {sl : Value} {z : Nat} {ro : Bool} {a b : Int} (hE : gridE w h s 8 zs = 0) (hz : A.get z = some (.cells [.int .i64 0] ro)) (hsl : RdS A 2 8 (ints zs) sl) (hab : validB a b (-20000) 20000 = true) (hg : g ≤ A.n)
    (hV : ∀ A' lo up s6 s7, SFin (sPar false w h zs) lo → SFin (sPar true w h zs) up → Ext' A A' → RdS A' 1 8 (bools (flS a (pairI lo up 8) 1 8)) s6 → RdS A' 1 8 (bools (flS b (pairI lo up 8) 0 8)) s7 → (∀ y, blkOf s6 = some y → A.n ≤ y) → (∀ y, blkOf s7 = some y → A.n ≤ y) → V (.tuple ⟨[s6, s7, .int .i64 0]⟩) A') :
    WF AP KL g 253 [gridV w h s sl, .slice (some ⟨z, 0, some 1⟩) 1 1, .agg ⟨[.int .i64 a, .int .i64 b]⟩] A V := by
  rw [WF_body (show KL 253 = none from rfl) (show AP 253 = some F253 from rfl)]
  obtain ⟨B, hB⟩ : ∃ B, B = (A.push (.cells [.int .i64 w, .int .i64 h, .int .i64 s, sl] false)).push (.cells [.int .i64 a, .int .i64 b] false) := ⟨_, rfl⟩
  have eB : Ext' A B := by rw [hB]; exact (Ext'.push A _).trans (Ext'.push _ _)
  have hBn : B.n = A.n + 2 := by rw [hB]; rfl
  have hX : B.get A.n = some (.cells [.int .i64 w, .int .i64 h, .int .i64 s, sl] false) := by rw [hB, get_push_old (by simp), get_push_new]
  have hS : B.get (A.n + 1) = some (.cells [.int .i64 a, .int .i64 b] false) := by rw [hB, get_push_eq (by simp)]
  simp (disch := as_aux_lemma => first | omega | simp only [hDs] <;> omega | simp [isCell]) [hRs, takeMarks, resA, resAll, resOne, Value.cells, F253, gridV, ← hB, hX]
  refine w265 hE (eB.get hz) (eB.rdS hsl) (by omega) fun A1 lo up sv k1 k2 k3 k4 k5 => ?_
  have n1 := k3.1
  have hl4 := k4.len
  simp (disch := as_aux_lemma => first | omega | simp only [hDs] <;> omega | simp [isCell]) [hRs, takeMarks, resA, resAll, resOne, Value.cells, k3.get hS]
  refine w58s fun A2 e2 => ?_
  rw [hab]
  have n2 := e2.1
  simp (disch := as_aux_lemma => first | omega | simp only [hDs] <;> omega | simp [isCell]) [hRs, takeMarks, resA, resAll, resOne, Value.cells, hl4]
  refine loop253 (N := A2.n) (X5 := A.n + 1) (A0 := A2) (rs := pairI lo up 8) (sl := sv) (a := a) (b := b) (e2.rdS k4) ((k3.trans e2).get hS) rfl (by omega) (T := _) ?_ ?_ ?_ (fun T' A3 s6 s7 t6 t7 h6 h7 he => ?_) 8 0 (s6 := .slice none 0 0) (s7 := .slice none 0 0) rfl (fun _ _ => rfl) ?_ ?_ ?_ ?_ ?_ (fun _ h => by cases h) (Ext'.refl _)
  · simp
  · simp
  · simp [hl4]
  · simp (disch := as_aux_lemma => first | omega | simp only [hDs] <;> omega | simp [isCell]) [hRs, takeMarks, resA, resAll, resOne, Value.cells, t6, t7]
    refine hV A3 lo up s6 s7 k1 k2 (eB.trans ((k3.trans e2).trans he)) (h6.rd (by rw [flS_len]) (by decide)) (h7.rd (by rw [flS_len]) (by decide)) (fun y hy => ?_) fun y hy => ?_
    · have := (h6.blk_ge hy).1; omega
    · have := (h7.blk_ge hy).1; omega
  · simp
  · simp
  · simp
  · exact .inl ⟨rfl, rfl⟩
  · exact .inl ⟨rfl, rfl⟩
end
end Go.Ab.Dike
namespace Go.Ab.Dike
open Go Go.Ab
def GrdOk (i : Nat) (zs : List Int) : Prop := zs.length = i * 2 ∧ ∀ j, j < i → -128 ≤ gi zs (j * 2) ∧ gi zs (j * 2) ≤ gi zs (j * 2 + 1) ∧ gi zs (j * 2 + 1) ≤ 136
theorem GrdOk.next {i : Nat} {zs : List Int} {lo hi : Int} (h : GrdOk i zs) (h1 : -128 ≤ lo) (h2 : lo ≤ hi) (h3 : hi ≤ 136) : GrdOk (i + 1) (zs ++ [lo, hi]) := by
  obtain ⟨hl, ha⟩ := h
  refine ⟨by simp [hl]; omega, fun j hj => ?_⟩
  by_cases hji : j = i
  · subst hji
    have a1 : gi (zs ++ [lo, hi]) (j * 2) = lo := gi_r (j := 0) hl
    have a2 : gi (zs ++ [lo, hi]) (j * 2 + 1) = hi := gi_r (j := 1) hl
    rw [a1, a2]; exact ⟨h1, h2, h3⟩
  · rw [gi_l (by omega), gi_l (by omega)]; exact ha j (by omega)
section
variable {g : Nat} {rd : Option Nat} {T : List Value} {D : List Nat} {A : Hp} {Q : Ex → St → Prop} {V : Value → Hp → Prop}
theorem loop232a {X11 n0 : Nat} {A0 : Hp} {xs : List Int} {v0 : Value} (hsl : RdS A0 1 n0 (kints .i8 xs) v0) (hxs : ∀ j, -128 ≤ gi xs j ∧ gi xs j ≤ 127) (hn0 : n0 ≤ 8) (hX : X11 < A0.n) (hg : g ≤ X11) (hv0 : ∀ z, blkOf v0 = some z → z ≠ X11)
    (t0 : tget T 0 = v0) (t11 : tget T 11 = .pointer (some ⟨X11, 0, none⟩))
    (hQ : ∀ T' A' zs sv, KeepT [0, 1, 2, 3, 4, 11] T T' → GrdOk 8 zs → A'.get X11 = some (.cells [.int .i64 8, .int .i64 1, .int .i64 10, sv] false) → AccS A0.n A' 2 (ints zs) sv → But X11 A0 A' → Q (.exit 0) ⟨T', D, A'⟩) :
    ∀ (k i : Nat) {T1 : List Value} {A : Hp} {zs : List Int} {sv : Value}, i + k = 8 → KeepT [0, 1, 2, 3, 4, 11] T T1 → tget T1 52 = .int .i64 i → GrdOk i zs → A.get X11 = some (.cells [.int .i64 8, .int .i64 1, .int .i64 10, sv] false) → AccS A0.n A 2 (ints zs) sv → But X11 A0 A → W AP KL g rd (.loop body232a) ⟨T1, D, A⟩ Q := by
  intro k
  induction k with
  | zero =>
    intro i T1 A zs sv hik hk t52 hG hA hacc hb
    have : i = 8 := by omega
    subst this
    rw [W_loop]
    simp (disch := as_aux_lemma => first | omega | simp only [hDs] <;> omega | simp [isCell]) [hRs, takeMarks, resA, resAll, resOne, Value.cells, body232a, t52]
    exact hQ _ A zs sv (hk.trans (by simp)) hG hA hacc hb
  | succ k ih =>
    intro i T1 A zs sv hik hk t52 hG hA hacc hb
    have u0 := (hk.at 0 rfl).trans t0
    have u11 := (hk.at 11 rfl).trans t11
    have hn := hb.1
    have e3 : wr .i64 ((i : Int) + 1) = ((i + 1 : Nat) : Int) := by rw [wrId (by omega) (by omega)]; simp
    have step : ∀ (v : Int), -128 ≤ v → v ≤ 127 → ∀ {T2 : List Value} {A2 : Hp}, KeepT [0, 1, 2, 3, 4, 11] T T2 → tget T2 52 = .int .i64 ((i + 1 : Nat) : Int) → (∃ sv', A2.get X11 = some (.cells [.int .i64 8, .int .i64 1, .int .i64 10, sv'] false) ∧ AccS A0.n A2 2 (ints (zs ++ [v, v + 9])) sv') → But X11 A0 A2 → W AP KL g rd (.loop body232a) ⟨T2, D, A2⟩ Q := by
      intro v h1 h2 T2 A2 hk2 u52 hx hb2
      obtain ⟨sv', hx1, hx2⟩ := hx
      exact ih (i + 1) (by omega) hk2 u52 (hG.next h1 (by omega) (by omega)) hx1 hx2 hb2
    have hsl' : RdS A 1 n0 (kints .i8 xs) v0 := hsl.keepB fun z hz => hb.2 z (hsl.blk_lt hz) (hv0 z hz)
    have hlen := hsl'.len
    have hzl := hsl'.1
    rw [kints_length] at hzl
    have hXA := Hp.lt_of_get hA
    have app : ∀ (v : Int) (A1 : Hp), Ext' A A1 → ∃ sv' A3, appendA g (A1.push (.cells [.int .i64 v, .int .i64 (v + 9)] false)) 2 16 sv (.slice (some ⟨A1.n, 0, some 2⟩) 1 1) = some (sv', A3) ∧ A3.get X11 = some (.cells [.int .i64 8, .int .i64 1, .int .i64 10, sv] false) ∧ AccS A0.n (A3.set X11 (some (.cells [.int .i64 8, .int .i64 1, .int .i64 10, sv'] false))) 2 (ints (zs ++ [v, v + 9])) sv' ∧ But X11 A0 (A3.set X11 (some (.cells [.int .i64 8, .int .i64 1, .int .i64 10, sv'] false))) := by
      intro v A1 e1
      have hn1 := e1.1
      obtain ⟨sv', A3, ha, hacc', hold, hn3⟩ := AccS.add (g := g) (bytes := 16) (n := i) (ro := false) (new := [.int .i64 v, .int .i64 (v + 9)]) (hacc.mono e1.2) (by omega) (by omega) rfl (by decide) rfl (by rw [ints_length]; exact hG.1) (by unfold room; omega)
      have hx3 : A3.get X11 = some (.cells [.int .i64 8, .int .i64 1, .int .i64 10, sv] false) := by rw [hold X11 hX]; exact e1.get hA
      have hx3n := Hp.lt_of_get hx3
      refine ⟨sv', A3, ha, hx3, ?_, ⟨by simp; omega, fun z hz hzX => ?_⟩⟩
      · rw [ints_append]
        exact AccS.keepB hacc' fun z hz => get_set_ne hx3n (by have := (hacc'.blk_ge hz).1; omega)
      · rw [get_set_ne hx3n hzX, hold z hz, e1.2 z (by omega), hb.2 z hz hzX]
    by_cases h0 : n0 = 0
    · subst h0
      rw [W_loop]
      simp (disch := as_aux_lemma => first | omega | simp only [hDs] <;> omega | simp [isCell]) [hRs, takeMarks, resA, resAll, resOne, Value.cells, body232a, t52, u0, u11, show (i : Int) < 8 by omega, show i < 8 by omega, hlen, hA, show wr .i64 (9 : Int) = 9 from rfl]
      refine w141 (Nat.le_refl _) fun A1 e1 => ?_
      obtain ⟨sv', A3, ha, hx3, hacc', hb'⟩ := app 0 A1 e1
      have ha' : appendA g (A1.push (.cells [.int .i64 0, .int .i64 9] false)) 2 16 sv (.slice (some ⟨A1.n, 0, some 2⟩) 1 1) = some (sv', A3) := ha
      obtain ⟨p', q', r', rfl⟩ := hacc'.isSlice
      simp (disch := as_aux_lemma => first | omega | simp only [hDs] <;> omega | simp [isCell]) [hRs, takeMarks, resA, resAll, resOne, Value.cells, u11, t52, slitA, fillA, setRange, ha', hx3, storeB_cells, e3]
      exact step 0 (by omega) (by omega) (hk.trans (by simp)) (by simp) ⟨_, get_set_same hx3, hacc'⟩ hb'
    · obtain ⟨x, cx, rx, rfl, hx⟩ := hsl'.at (i := 0) (by omega)
      obtain ⟨j, hj⟩ : ∃ j : Nat, (i : Int).tmod n0 = j := ⟨((i : Int).tmod n0).toNat, by have := Int.tmod_nonneg (n0 : Int) (show 0 ≤ (i : Int) by omega); omega⟩
      have hjn : j < n0 := by
        have := Int.tmod_lt_of_pos (i : Int) (show (0 : Int) < n0 by omega)
        omega
      have hat : cellAt (kints .i8 xs) j = some (.int .i8 (gi xs j)) := kints_get (by omega)
      obtain ⟨v, hv⟩ : ∃ v, v = gi xs j := ⟨_, rfl⟩
      have hvr := hxs j
      rw [← hv] at hat hvr
      have e1 := wrId (n := v) (by omega) (by omega)
      have e2 := wrId (n := v + 9) (by omega) (by omega)
      rw [W_loop]
      simp (disch := as_aux_lemma => first | omega | simp only [hDs] <;> omega | simp [isCell]) [hRs, takeMarks, resA, resAll, resOne, Value.cells, body232a, t52, u0, u11, show (i : Int) < 8 by omega, show i < 8 by omega, hlen, hA, show (0 : Int) < n0 by omega, show 0 < n0 by omega, h0, binA_rem (show (n0 : Int) ≠ 0 by omega), hj, idxSA_ok, hx, hat, toIntA, e1, e2]
      refine w141 (Nat.le_refl _) fun A1 e1 => ?_
      obtain ⟨sv', A3, ha, hx3, hacc', hb'⟩ := app v A1 e1
      obtain ⟨p', q', r', rfl⟩ := hacc'.isSlice
      simp (disch := as_aux_lemma => first | omega | simp only [hDs] <;> omega | simp [isCell]) [hRs, takeMarks, resA, resAll, resOne, Value.cells, u11, t52, slitA, fillA, setRange, ha, hx3, storeB_cells, e3]
      exact step v (by omega) (by omega) (hk.trans (by simp)) (by simp) ⟨_, get_set_same hx3, hacc'⟩ hb'
def RealOk (i : Nat) (zs ys : List Int) : Prop := ys.length = i * 2 ∧ ∀ j, j < i → gi zs (j * 2) ≤ gi ys (j * 2) ∧ gi ys (j * 2 + 1) = gi ys (j * 2) ∧ gi ys (j * 2) ≤ gi zs (j * 2 + 1)
theorem RealOk.next {i : Nat} {zs ys : List Int} {v : Int} (h : RealOk i zs ys) (h1 : gi zs (i * 2) ≤ v) (h2 : v ≤ gi zs (i * 2 + 1)) : RealOk (i + 1) zs (ys ++ [v, v]) := by
  obtain ⟨hl, ha⟩ := h
  refine ⟨by simp [hl]; omega, fun j hj => ?_⟩
  by_cases hji : j = i
  · subst hji
    have a1 : gi (ys ++ [v, v]) (j * 2) = v := gi_r (j := 0) hl
    have a2 : gi (ys ++ [v, v]) (j * 2 + 1) = v := gi_r (j := 1) hl
    rw [a1, a2]; exact ⟨h1, rfl, h2⟩
  · rw [gi_l (by omega), gi_l (by omega)]; exact ha j (by omega)
theorem loop232b {X15 X3 X1 : Nat} {A0 : Hp} {zs : List Int} {sl : Value} (hsl : RdS A0 2 8 (ints zs) sl) (hz : GrdOk 8 zs) (hX : X15 < A0.n) (hX3 : X3 < A0.n) (hX1 : X1 < A0.n) (n1 : X15 ≠ X3) (n2 : X15 ≠ X1) (hgX : g ≤ X15) (hg3 : g ≤ X3) (hsX : ∀ z, blkOf sl = some z → z ≠ X15 ∧ z ≠ X3) (hch : ∀ (A' : Hp) (k : Int), But2 X3 X15 A0 A' → A'.get X3 = some (.cells [.int .i64 k] false) → 0 ≤ k → Ch A' X3 X1 k)
    (t14 : tget T 14 = chF X3 X1) (t15 : tget T 15 = .pointer (some ⟨X15, 0, none⟩)) (t81 : tget T 81 = sl) (t82 : tget T 82 = .int .i64 8)
    (hQ : ∀ T' A' ys sv kk, KeepT [0, 1, 2, 3, 4, 11, 14, 15] T T' → RealOk 8 zs ys → kk ≤ 8 → A'.get X15 = some (.cells [.int .i64 8, .int .i64 1, .int .i64 10, sv] false) → AccS A0.n A' 2 (ints ys) sv → Ch A' X3 X1 kk → But2 X3 X15 A0 A' → Q (.exit 2) ⟨T', D, A'⟩) :
    ∀ (k i : Nat) {T1 : List Value} {A : Hp} {ys : List Int} {sv : Value}, i + k = 8 → KeepT [0, 1, 2, 3, 4, 11, 14, 15, 81, 82] T T1 → tget T1 83 = .int .i64 i → RealOk i zs ys → A.get X15 = some (.cells [.int .i64 8, .int .i64 1, .int .i64 10, sv] false) → AccS A0.n A 2 (ints ys) sv → Ch A X3 X1 i → But2 X3 X15 A0 A → W AP KL g rd (.loop body232b) ⟨T1, D, A⟩ Q := by
  intro k
  induction k with
  | zero =>
    intro i T1 A ys sv hik hk t83 hG hA hacc hc hb
    have : i = 8 := by omega
    subst this
    have u82 := (hk.at 82 rfl).trans t82
    rw [W_loop]
    simp (disch := as_aux_lemma => first | omega | simp only [hDs] <;> omega | simp [isCell]) [hRs, takeMarks, resA, resAll, resOne, Value.cells, body232b, t83, u82]
    refine hQ _ A ys sv 8 ?_ hG (by omega) hA hacc hc hb
    simp [hk.at 0 rfl, hk.at 1 rfl, hk.at 2 rfl, hk.at 3 rfl, hk.at 4 rfl, hk.at 11 rfl, hk.at 14 rfl, hk.at 15 rfl]
  | succ k ih =>
    intro i T1 A ys sv hik hk t83 hG hA hacc hc hb
    have u14 := (hk.at 14 rfl).trans t14
    have u15 := (hk.at 15 rfl).trans t15
    have u81 := (hk.at 81 rfl).trans t81
    have u82 := (hk.at 82 rfl).trans t82
    have hn := hb.1
    have e3 : wr .i64 ((i : Int) + 1) = ((i + 1 : Nat) : Int) := by rw [wrId (by omega) (by omega)]; simp
    have hsl' : RdS A 2 8 (ints zs) sl := hsl.keepB fun z hz => hb.2 z (hsl.blk_lt hz) (hsX z hz).2 (hsX z hz).1
    obtain ⟨x, cx, rx, rfl, hx⟩ := hsl'.at (i := i) (by omega)
    have i2 := ints_two (l := zs) (o := i * 2) (by have := hz.1; omega)
    have hzi := hz.2 i (by omega)
    obtain ⟨lo, hlo⟩ : ∃ lo, lo = gi zs (i * 2) := ⟨_, rfl⟩
    obtain ⟨hi, hhi⟩ : ∃ hi, hi = gi zs (i * 2 + 1) := ⟨_, rfl⟩
    have hG' := hG
    rw [← hlo, ← hhi] at i2 hzi
    unfold chF at u14
    rw [W_loop]
    simp (disch := as_aux_lemma => first | omega | simp only [hDs] <;> omega | simp [isCell]) [hRs, takeMarks, resA, resAll, resOne, Value.cells, body232b, t83, u14, u15, u81, u82, show (i : Int) < 8 by omega, show i < 8 by omega, idxSA_ok, hx, i2, storeB_cells, setRange, set_push_eq, setRange_all]
    have eB := Ext'.push A (.cells [.int .i64 lo, .int .i64 hi] false)
    refine w172 (hc.ext eB) (by omega) (by omega) hzi.2.1 (by omega) hg3 fun A2 v b2 hc2 v1 v2 => ?_
    have n2' := b2.1
    simp only [Hp.n_push] at n2'
    have o2 : ∀ z, z < A.n → z ≠ X3 → A2.get z = A.get z := fun z hz hzX => by rw [b2.2 z (by simp; omega) hzX, eB.2 z hz]
    have hA2 : A2.get X15 = some (.cells [.int .i64 8, .int .i64 1, .int .i64 10, sv] false) := by rw [o2 X15 (Hp.lt_of_get hA) n1]; exact hA
    simp (disch := as_aux_lemma => first | omega | simp only [hDs] <;> omega | simp [isCell]) [hRs, takeMarks, resA, resAll, resOne, Value.cells, u15, hA2]
    refine w141 (Nat.le_refl _) fun A3 e3' => ?_
    have n3' := e3'.1
    have o3 : ∀ z, z < A.n → z ≠ X3 → A3.get z = A.get z := fun z hz hzX => by rw [e3'.2 z (by omega), o2 z hz hzX]
    have acc3 : AccS A0.n A3 2 (ints ys) sv := AccS.keepB hacc fun z hz => by
      have := hacc.blk_ge hz
      exact o3 z this.2 (by omega)
    obtain ⟨sv', A4, ha, hacc', hold', hn4⟩ := AccS.add (g := g) (bytes := 16) (n := i) (ro := false) (new := [.int .i64 v, .int .i64 v]) acc3 (by omega) (by omega) rfl (by decide) rfl (by rw [ints_length]; exact hG.1) (by unfold room; omega)
    have hx4 : A4.get X15 = some (.cells [.int .i64 8, .int .i64 1, .int .i64 10, sv] false) := by rw [hold' X15 hX, e3'.2 _ (by have := Hp.lt_of_get hA; omega)]; exact hA2
    have hx4n := Hp.lt_of_get hx4
    obtain ⟨p', q', r', rfl⟩ := hacc'.isSlice
    simp (disch := as_aux_lemma => first | omega | simp only [hDs] <;> omega | simp [isCell]) [hRs, takeMarks, resA, resAll, resOne, Value.cells, u15, t83, slitA, fillA, setRange, ha, hx4, storeB_cells, e3]
    have hb4 : But2 X3 X15 A0 (A4.set X15 (some (.cells [.int .i64 8, .int .i64 1, .int .i64 10, .slice p' q' r'] false))) := ⟨by simp; omega, fun z hz h3 h15 => by rw [get_set_ne hx4n h15, hold' z hz, o3 z (by omega) h3, hb.2 z hz h3 h15]⟩
    refine ih (i + 1) (ys := ys ++ [v, v]) (by omega) (hk.trans (by simp)) (by simp) (hG.next (by rw [← hlo]; exact v1) (by rw [← hhi]; exact v2)) (get_set_same hx4) ?_ (hch _ _ hb4 ?_ (by omega)) hb4
    · rw [ints_append]
      exact AccS.keepB hacc' fun z hz => get_set_ne hx4n (by have := (hacc'.blk_ge hz).1; omega)
    · rw [get_set_ne hx4n (Ne.symm n1), hold' X3 hX3, e3'.2 X3 (by omega), hc2.next]
      simp
end
end Go.Ab.Dike
namespace Go.Ab.Dike
open Go Go.Ab
def secL (S : Sec) : List Int := [S.cell, S.cl, S.ch, S.sl, S.sh, S.toe, S.wl, S.wh]
def set2 (l : List Int) (o : Nat) (v : Int) : List Int := (l.set o v).set (o + 1) v
theorem set2_length {l : List Int} {o : Nat} {v : Int} : (set2 l o v).length = l.length := by simp [set2]
theorem set2_gi {l : List Int} {o i : Nat} {v : Int} (h : o + 1 < l.length) : gi (set2 l o v) i = if i = o ∨ i = o + 1 then v else gi l i := by
  unfold set2
  rw [gi_setI (by simpa using h)]
  by_cases h1 : i = o + 1
  · rw [if_pos h1, if_pos (.inr h1)]
  · rw [if_neg h1, gi_setI (by omega)]
    by_cases h2 : i = o
    · rw [if_pos h2, if_pos (.inl h2)]
    · rw [if_neg h2, if_neg (by omega)]
theorem setRange_two {l : List Int} {o : Nat} {v : Int} (h : o + 1 < l.length) : setRange (ints l) o [.int .i64 v, .int .i64 v] = ints (set2 l o v) := by
  apply List.ext_getElem?
  intro i
  rw [setRange_get (by rw [ints_length]; simp; omega)]
  unfold set2 ints
  simp only [List.getElem?_map, List.getElem?_set, List.length_cons, List.length_nil, List.length_set]
  by_cases h1 : o + 1 = i
  · subst h1
    rw [if_pos (by omega), show o + 1 - o = 1 by omega]
    simp [h]
  · by_cases h2 : o = i
    · subst h2
      rw [if_pos (by omega), show o - o = 0 by omega]
      simp [show o < l.length by omega]
    · rw [if_neg (by omega), if_neg h1, if_neg h2]
def putF (F : Nat → FT) (i : Nat) (f : FT) (j : Nat) : FT := if j = i then f else F j
theorem putF_self {F : Nat → FT} {i : Nat} {f : FT} : putF F i f i = f := if_pos rfl
theorem putF_lt {F : Nat → FT} {i j : Nat} {f : FT} (h : j < i) : putF F i f j = F j := if_neg (by omega)
theorem raiseL_congr {ss ss' : List Int} {F F' : Nat → FT} {st : Nat} {zs : List Int} : ∀ {k : Nat}, (∀ j, j < k → gi ss (j * 8) = gi ss' (j * 8) ∧ F j = F' j) → raiseL ss F st zs k = raiseL ss' F' st zs k
  | 0, _ => rfl
  | k + 1, h => by
    have ih := raiseL_congr (st := st) (zs := zs) (k := k) fun j hj => h j (by omega)
    obtain ⟨e1, e2⟩ := h k (by omega)
    simp only [raiseL, ih, e1, e2]
theorem lift1_gi {L : List Int} {c : Nat} {w : Bool} {lo : Int} {i : Nat} (hc : c * 2 < L.length) : gi (lift1 L c w lo) i = if w = true ∧ i = c * 2 then max (gi L (c * 2)) lo else gi L i := by
  unfold lift1
  cases w
  · simp
  · simp only [if_true, true_and]
    rw [gi_setI hc]
theorem lift2_gi {L : List Int} {c : Nat} {w gone : Bool} {hi : Int} {i : Nat} (hc : c * 2 + 1 < L.length) : gi (lift2 L c w gone hi) i = if (w || !gone) = true ∧ i = c * 2 + 1 then max (gi L (c * 2 + 1)) hi else gi L i := by
  unfold lift2
  by_cases h : (w || !gone) = true
  · rw [if_pos h, gi_setI hc]; simp [h]
  · rw [if_neg h, if_neg fun h' => h h'.1]
def fateOf (S : Sec) (n : Nat) (lv : List Int) : FT := ⟨n + 1, crL S lv (n + 1), n + 1, stL S lv (n + 1), (holdS S lv n).may, (holdS S lv n).must⟩
structure WIn (i st : Nat) (zs ss : List Int) (F : Nat → FT) (ys : List Int) : Prop where
  zl : zs.length = 16
  sl : ss.length = i * 8
  secs : ∀ j, j < i → gi ss (j * 8) = ((2 * j + 1 : Nat) : Int) ∧ (secA ss j).ok = true
  fat : ∀ j, j < i → fateE F st j = 0
  yl : ys.length = 16
  win : ∀ c, c < 8 → -3000 ≤ gi (raiseL ss F st zs i) (c * 2) ∧ gi (raiseL ss F st zs i) (c * 2) ≤ gi ys (c * 2) ∧ gi ys (c * 2 + 1) = gi ys (c * 2) ∧ gi ys (c * 2) ≤ gi (raiseL ss F st zs i) (c * 2 + 1) ∧ gi (raiseL ss F st zs i) (c * 2 + 1) ≤ 3000
theorem WIn.start {st : Nat} {zs ys : List Int} {F : Nat → FT} (hz : GrdOk 8 zs) (hy : RealOk 8 zs ys) : WIn 0 st zs [] F ys := by
  refine ⟨hz.1, rfl, fun j hj => absurd hj (by omega), fun j hj => absurd hj (by omega), hy.1, fun c hc => ?_⟩
  have h1 := hz.2 c hc
  have h2 := hy.2 c hc
  simp only [raiseL]
  omega
theorem secA_left {ss tl : List Int} {j i : Nat} (h : ss.length = i * 8) (hj : j < i) : secA (ss ++ tl) j = secA ss j := by
  unfold secA
  simp only [Sec.mk.injEq]
  refine ⟨?_, ?_, ?_, ?_, ?_, ?_, ?_, ?_⟩ <;> exact gi_l (by omega)
theorem secA_last {ss : List Int} {i : Nat} {S : Sec} (h : ss.length = i * 8) : secA (ss ++ secL S) i = S := by
  unfold secA
  have e := fun j => gi_r (l := ss) (r := secL S) (i := i * 8) (j := j) h
  have e0 : gi (ss ++ secL S) (i * 8) = _ := e 0
  rw [e0, e 1, e 2, e 3, e 4, e 5, e 6, e 7]
  rfl
def realN (ys : List Int) (i st : Nat) (f : Int) (cL : List Int) : List Int := if f < 0 ∨ (st : Int) ≤ f then set2 ys ((2 * i + 1) * 2) (max (gi ys ((2 * i + 1) * 2)) (gi cL st)) else ys
theorem WIn.next {i st n : Nat} {zs ss ys lv cL hL : List Int} {F : Nat → FT} {S : Sec} {c h f : Int} (hW : WIn i st zs ss F ys) (hi : i < 4) (hS : WallOk S) (hcell : S.cell = ((2 * i + 1 : Nat) : Int)) (hl : LevOk n lv) (hn : 6 ≤ n ∧ n ≤ 20) (hst : st ≤ 5) (hliv : Liv (holdS S lv n) n c h f) (hls : Lists S lv n cL hL) :
    WIn (i + 1) st zs (ss ++ secL S) (putF F i (fateOf S n lv)) (realN ys i st f cL) := by
  have hcr := crL_length S lv (n + 1)
  have g1 := gi_crL S lv (k := st) (m := n + 1) (by omega)
  have bd := hold_bd (zs := lv) hS st (by omega)
  obtain ⟨⟨l1, l2⟩, _⟩ := hls.all st (by omega)
  have hok : S.ok = true := by
    have h1 := hS.c
    have h2 := hS.s
    have h3 := hS.t
    have h4 := hS.w
    simp [Sec.ok, validB]; omega
  have hR : raiseL (ss ++ secL S) (putF F i (fateOf S n lv)) st zs i = raiseL ss F st zs i := raiseL_congr fun j hj => ⟨gi_l (by have := hW.sl; omega), putF_lt hj⟩
  have hcl : gi (ss ++ secL S) (i * 8) = ((2 * i + 1 : Nat) : Int) := by rw [← hcell]; exact gi_r (j := 0) hW.sl
  obtain ⟨k, hk⟩ : ∃ k, k = 2 * i + 1 := ⟨_, rfl⟩
  have hk8 : k < 8 := by omega
  rw [← hk] at hcl
  obtain ⟨R, hRe⟩ : ∃ R, R = raiseL ss F st zs i := ⟨_, rfl⟩
  have hRl : R.length = 16 := by rw [hRe, raiseL_length]; exact hW.zl
  have hstep : raiseL (ss ++ secL S) (putF F i (fateOf S n lv)) st zs (i + 1) = lift2 (lift1 R k ((fateOf S n lv).whole st) (holdS S lv st).wc) k ((fateOf S n lv).whole st) ((fateOf S n lv).gone st) (holdS S lv st).sc := by
    have e1 : gi (fateOf S n lv).cz (st * 2) = (holdS S lv st).wc := g1.1
    have e2 : gi (fateOf S n lv).cz (st * 2 + 1) = (holdS S lv st).sc := g1.2
    show lift2 (lift1 (raiseL (ss ++ secL S) (putF F i (fateOf S n lv)) st zs i) _ _ _) _ _ _ _ = _
    rw [hR, ← hRe, hcl, putF_self, e1, e2]
    rfl
  refine ⟨hW.zl, by rw [List.length_append, hW.sl]; simp [secL]; omega, fun j hj => ?_, fun j hj => ?_, ?_, fun d hd => ?_⟩
  · by_cases hji : j = i
    · subst hji
      rw [secA_last hW.sl, hcl, hk]
      exact ⟨rfl, hok⟩
    · rw [secA_left hW.sl (by omega), gi_l (by have := hW.sl; omega)]
      exact hW.secs j (by omega)
  · by_cases hji : j = i
    · subst hji
      unfold fateE
      rw [putF_self]
      rw [if_neg (by simp [fateOf]; omega)]
      have e1 : gi (fateOf S n lv).cz ((st : Int).toNat * 2) = (holdS S lv st).wc := g1.1
      have e2 : gi (fateOf S n lv).cz ((st : Int).toNat * 2 + 1) = (holdS S lv st).sc := g1.2
      rw [e1, e2]
      have b1 := bd.a
      have b2 := bd.c
      rw [if_neg (by simp [validB]; omega)]
    · have := hW.fat j (by omega)
      unfold fateE at this ⊢
      rw [putF_lt (by omega)]; exact this
  · unfold realN; split
    · rw [set2_length]; exact hW.yl
    · exact hW.yl
  · have hw := hW.win d hd
    rw [← hRe] at hw
    rw [hstep, lift2_gi (by rw [lift1_length]; omega), lift2_gi (by rw [lift1_length]; omega), lift1_gi (by omega), lift1_gi (by omega), lift1_gi (by omega)]
    have hyl := hW.yl
    have b1 := bd.a
    have b2 := bd.c
    by_cases hdk : d = k
    · subst hdk
      have hy : ∀ o, o = 0 ∨ o = 1 → gi (realN ys i st f cL) (d * 2 + o) = if f < 0 ∨ (st : Int) ≤ f then max (gi ys (d * 2)) (gi cL st) else gi ys (d * 2 + o) := fun o ho => by
        unfold realN
        rw [← hk]
        by_cases hr : f < 0 ∨ (st : Int) ≤ f
        · rw [if_pos hr, if_pos hr, set2_gi (by omega), if_pos (by omega)]
        · rw [if_neg hr, if_neg hr]
      have hy0 := hy 0 (.inl rfl)
      have hy1 := hy 1 (.inr rfl)
      rw [Nat.add_zero] at hy0
      rw [hy0, hy1]
      have hmay := hliv.may
      have hmust := hliv.must
      have q1 : (fateOf S n lv).whole st = true ↔ (holdS S lv n).may = -1 ∨ (st : Int) ≤ (holdS S lv n).may := by unfold FT.whole; rw [Bool.or_eq_true, decide_eq_true_eq, decide_eq_true_eq]; exact Iff.rfl
      have q2 : (fateOf S n lv).gone st = true ↔ 0 ≤ (holdS S lv n).must ∧ (holdS S lv n).must < (st : Int) := by unfold FT.gone; rw [Bool.and_eq_true, decide_eq_true_eq, decide_eq_true_eq]; exact Iff.rfl
      have bn := hold_bd (zs := lv) hS n (by omega)
      have m1 := bn.may
      have m2 := bn.must
      obtain ⟨wb, hwb⟩ : ∃ wb, wb = (fateOf S n lv).whole st := ⟨_, rfl⟩
      obtain ⟨gb, hgb⟩ : ∃ gb, gb = (fateOf S n lv).gone st := ⟨_, rfl⟩
      rw [← hwb] at q1
      rw [← hgb] at q2
      rw [← hwb, ← hgb]
      cases wb <;> cases gb <;> simp at q1 q2 ⊢ <;> by_cases hr : f < 0 ∨ (st : Int) ≤ f <;> simp [hr] <;> omega
    · have hy : ∀ o, o = 0 ∨ o = 1 → gi (realN ys i st f cL) (d * 2 + o) = gi ys (d * 2 + o) := fun o ho => by
        unfold realN
        rw [← hk]
        split
        · rw [set2_gi (by omega), if_neg (by omega)]
        · rfl
      have hy0 := hy 0 (.inl rfl)
      have hy1 := hy 1 (.inr rfl)
      rw [Nat.add_zero] at hy0
      rw [hy0, hy1, if_neg (by omega), if_neg (by omega), if_neg (by omega), if_neg (by omega)]
      exact hw
end Go.Ab.Dike
namespace Go.Ab.Dike
open Go Go.Ab
theorem grid_ok {ys : List Int} (h : ∀ c, c < 8 → -1200000 ≤ gi ys (c * 2) ∧ gi ys (c * 2) ≤ gi ys (c * 2 + 1) ∧ gi ys (c * 2 + 1) ≤ 1200000) : gridE 8 1 10 8 ys = 0 := by
  refine gridE_d (by decide) (by decide) ?_
  rw [Bool.eq_false_iff]
  intro hany
  rw [List.any_eq_true] at hany
  obtain ⟨i, hi, hb⟩ := hany
  have := h i (by simpa using hi)
  have hg : grd ys i = true := by
    simp only [grd, validB, Bool.and_eq_true, decide_eq_true_eq]
    omega
  rw [hg] at hb
  cases hb
theorem WIn.raise {n st : Nat} {zs ss ys : List Int} {F : Nat → FT} (h : WIn n st zs ss F ys) (hn : n ≤ 4) (hz : GrdOk 8 zs) : raiseE 8 1 10 8 zs n ss n F st = 0 := by
  have hg : gridE 8 1 10 8 zs = 0 := grid_ok fun c hc => by have := hz.2 c hc; omega
  have hs : ∀ k, k ≤ n → firstE (stepE 8 ss) k = 0 := by
    intro k
    induction k with
    | zero => intro _; rfl
    | succ k ih =>
      intro hk
      refine firstE_next (ih (by omega)) ?_
      obtain ⟨c1, c2⟩ := h.secs k (by omega)
      unfold stepE
      rw [c1, if_neg (by omega), if_neg ?_, c2, if_neg (by simp)]
      rw [mem_metL]
      rintro ⟨j, hj, e⟩
      rw [(h.secs j (by omega)).1] at e
      omega
  have hf : ∀ k, k ≤ n → firstE (fateE F st) k = 0 := by
    intro k
    induction k with
    | zero => intro _; rfl
    | succ k ih => intro hk; exact firstE_next (ih (by omega)) (h.fat k (by omega))
  have hc : checkE 8 1 10 8 zs n ss = 0 := by
    unfold checkE
    rw [hg, if_neg (by simp), if_neg (by omega)]
    exact hs n (Nat.le_refl _)
  rw [raiseE_d hc rfl (by omega)]
  exact hf n (Nat.le_refl _)
theorem WIn.grid {n st : Nat} {zs ss ys : List Int} {F : Nat → FT} (h : WIn n st zs ss F ys) : gridE 8 1 10 8 (raiseL ss F st zs n) = 0 := grid_ok fun c hc => by
  have := h.win c hc
  omega
theorem WIn.real {n st : Nat} {zs ss ys : List Int} {F : Nat → FT} (h : WIn n st zs ss F ys) : gridE 8 1 10 8 ys = 0 := grid_ok fun c hc => by
  have := h.win c hc
  omega
theorem WIn.flood {n st : Nat} {zs ss ys : List Int} {F : Nat → FT} (h : WIn n st zs ss F ys) {loR upR upY : List Int} (h1 : SFin (sPar false 8 1 (raiseL ss F st zs n)) loR) (h2 : SFin (sPar true 8 1 (raiseL ss F st zs n)) upR) (h3 : SFin (sPar true 8 1 ys) upY) {c : Nat} (hc : c < 8) :
    gi loR c ≤ gi upY c ∧ gi upY c ≤ gi upR c := by
  have oR := fun up => (sPar_line (up := up) h.grid).ok
  have oY := fun up => (sPar_line (up := up) h.real).ok
  refine ⟨SFin.mono (oR false) (oY true) rfl rfl (fun _ _ => rfl) (fun d hd => ?_) h1 h3 hc, SFin.mono (oY true) (oR true) rfl rfl (fun _ _ => rfl) (fun d hd => ?_) h3 h2 hc⟩
  · have := h.win d hd
    show gi (raiseL ss F st zs n) (d * 2) ≤ gi ys (d * 2 + 1)
    omega
  · have := h.win d hd
    show gi ys (d * 2 + 1) ≤ gi (raiseL ss F st zs n) (d * 2 + 1)
    omega
end Go.Ab.Dike
namespace Go.Ab.Dike
open Go Go.Ab
def k0_232 : ACode := (.ops [
oM 106 104,
oI 107 102 104 10,
oD 108 107 10,
oP 23 (.alloc [.int .i16 0, .int .i16 0, .int .i16 0, .int .u8 0, .int .u8 0, .int .u8 0, .int .u8 0, .slice none 0 0, .slice none 0 0, .slice none 0 0]),
oM 22 106,
oT 23 108 10])
def k1_232 : ACode := (.seq
 (.ops [
oF 109 23 7,
oL 110 109,
oP 111 (.len (.t 110)),
oC 112 .lss 111 6,
oM 113 112,
oQ 114 113 false (.fieldAddr (.t 23) 7),
oQ 115 113 false (.load (.t 114) none),
oQ 116 113 false (.len (.t 115)),
oQ 117 113 false (.bin .gtr (.t 116) (oK 20)),
oP 118 (.pick (.t 113) (.k (.bool true)) (.t 117))])
 (.cond (.t 118)
 (.seq
 (.ops [
oA 119 121 [] false,
oM 10 119])
 .ret)
 .skip))
def k2_232 : ACode := (.ops [
oD 121 23 10,
oM 122 22,
oP 123 (.bin .mul (oK 2) (.t 122)),
oC 124 .add 123 1,
oA 125 137 [.t 121, .t 124] false,
oM 120 125,
oX 126 120 0,
oX 127 120 1,
oP 24 (.alloc [.int .i64 0, .int .i64 0, .int .i64 0, .int .i64 0, .int .i64 0, .int .i64 0, .int .i64 0, .int .i64 0]),
oT 24 126 8,
oM 25 127])
def k3_232 : ACode := (.ops [
oD 129 24 8,
oM 130 25,
oA 131 122 [.t 129, .t 130] false,
oM 128 131,
oX 132 128 0,
oX 133 128 1,
oP 26 (.alloc [.slice none 0 0, .slice none 0 0, .int .i64 0, .int .i64 0]),
oT 26 132 4,
oM 27 133])
def k4_232 : ACode := (.seq
 (.ops [
oM 134 27,
oC 135 .neq 134 0])
 (.cond (.t 135)
 (.seq
 (.ops [
oP 10 (.move (.k (.bool false)))])
 .ret)
 .skip))
def Walls (A : Hp) (n : Nat) (sl : Value) : Prop := ∃ row, RdS A 10 n row sl ∧ ∀ i, i < n → ∃ cs m, partA row (i * 10) (some 10) = some (.agg ⟨cs⟩) ∧ WallIn A cs m
theorem WallIn.mono {A A' : Hp} {cs : List Value} {n : Nat} (h : WallIn A cs n) (he : Ext' A A') : WallIn A' cs n := by
  obtain ⟨cr, st, toe, m0, m1, m2, wear, lv, wd, tr, m, q, xs, ys, us, hcs, h1, h2, h3, h4, h5, h6, h7, hlv, hxs, hwd, hm, hys, htr, hq, hus⟩ := h.e
  exact ⟨cr, st, toe, m0, m1, m2, wear, lv, wd, tr, m, q, xs, ys, us, hcs, h1, h2, h3, h4, h5, h6, h7, he.rdS hlv, hxs, he.rdS hwd, hm, hys, he.rdS htr, hq, hus⟩
theorem Walls.mono {A A' : Hp} {n : Nat} {sl : Value} (h : Walls A n sl) (he : Ext' A A') : Walls A' n sl := by
  obtain ⟨row, h1, h2⟩ := h
  refine ⟨row, he.rdS h1, fun i hi => ?_⟩
  obtain ⟨cs, m, h3, h4⟩ := h2 i hi
  exact ⟨cs, m, h3, h4.mono he⟩
theorem Walls.len {A : Hp} {n : Nat} {sl : Value} (h : Walls A n sl) : lenV sl = some (.int .i64 n) := by obtain ⟨_, h1, _⟩ := h; exact h1.len
section
variable {g : Nat} {rd : Option Nat} {T : List Value} {D : List Nat} {A : Hp} {Q : Ex → St → Prop} {V : Value → Hp → Prop}
def kT : List Nat := [0, 1, 2, 3, 4, 11, 14, 15, 19, 20, 21, 102, 103, 104]
theorem kA232 {R : ACode} {n i : Nat} {sl : Value} (hW : Walls A n sl) (hn : n ≤ 4) (hi : i < n) (hg : g ≤ A.n) (t102 : tget T 102 = sl) (t104 : tget T 104 = .int .i64 i)
    (hret : ∀ T' A', tget T' 10 = .bool true → Q .ret ⟨T', D, A'⟩)
    (hQ : ∀ T' A' S lv m xs fa fb XS XF, KeepT kT T T' → Ext' A A' → 6 ≤ m ∧ m ≤ 20 → S.cell = ((2 * i + 1 : Nat) : Int) → WallOk S → LevOk m lv → RdS A' 2 m (ints lv) xs → (∀ z, blkOf xs = some z → A.n ≤ z) → A'.get XS = some (.cells S.cells false) → A.n ≤ XS →
      A'.get XF = some (.cells [fa, fb, .int .i64 (holdS S lv m).may, .int .i64 (holdS S lv m).must] false) → A.n ≤ XF → XF + 1 = A'.n → RdS A' 2 (m + 1) (ints (crL S lv (m + 1))) fa → RdS A' 2 (m + 1) (ints (stL S lv (m + 1))) fb → (∀ z, blkOf fa = some z → A.n ≤ z) → (∀ z, blkOf fb = some z → A.n ≤ z) →
      tget T' 24 = .pointer (some ⟨XS, 0, none⟩) → tget T' 25 = xs → tget T' 26 = .pointer (some ⟨XF, 0, none⟩) → W AP KL g rd R ⟨T', D, A'⟩ Q) :
    W AP KL g rd (.seq k0_232 (.seq k1_232 (.seq k2_232 (.seq k3_232 (.seq k4_232 R))))) ⟨T, D, A⟩ Q := by
  obtain ⟨row, hsl, hrow⟩ := hW
  obtain ⟨cs, m, hp, hw⟩ := hrow i hi
  obtain ⟨x, cx, rx, rfl, hx⟩ := hsl.at hi
  obtain ⟨cr, st, toe, m0, m1, m2, wear, lv', wd, tr, m', q, xs', ys, us, hcs, h1, h2, h3, h4, h5, h6, h7, hlv, hxs, hwd, hm', hys, htr, hq, hus⟩ := hw.e
  obtain ⟨B, hB⟩ : ∃ B, B = A.push (.cells cs false) := ⟨_, rfl⟩
  have hBn : B.n = A.n + 1 := by rw [hB]; rfl
  have eB : Ext' A B := by rw [hB]; exact Ext'.push A _
  have hX : B.get A.n = some (.cells cs false) := by rw [hB, get_push_new]
  have hc7 : cellAt cs 7 = some lv' := by rw [hcs]; rfl
  have hca : partA cs 0 (some 10) = some (.agg ⟨cs⟩) := by rw [hcs]; rfl
  have hin : (i : Int) < n := by omega
  have hcl : cs.length = 10 := by rw [hcs]; rfl
  have hcc : cs.all isCell = true := by
    obtain ⟨_, _, rfl⟩ := hlv.isSlice
    obtain ⟨_, _, rfl⟩ := hwd.isSlice
    obtain ⟨_, _, rfl⟩ := htr.isSlice
    rw [hcs]; rfl
  have hst : storeB (some (.cells [.int .i16 0, .int .i16 0, .int .i16 0, .int .u8 0, .int .u8 0, .int .u8 0, .int .u8 0, .slice none 0 0, .slice none 0 0, .slice none 0 0] false)) g (A.push (.cells [.int .i16 0, .int .i16 0, .int .i16 0, .int .u8 0, .int .u8 0, .int .u8 0, .int .u8 0, .slice none 0 0, .slice none 0 0, .slice none 0 0] false)) A.n 0 cs 10 = some (undef, B) := by
    rw [storeB_cells hcl hg (by simp) hcc, setRange_all (by rw [hcl]; rfl), set_push_eq (by omega), hB]
  simp (disch := as_aux_lemma => first | omega | simp only [hDs] <;> omega | simp [isCell]) [hRs, takeMarks, resA, resAll, resOne, Value.cells, k0_232, t102, t104, hin, idxSA_ok, hx, hp, hst]
  have hwB := hw.mono eB
  have w2i : wr .i64 (2 * (i : Int)) = 2 * (i : Int) := wrId (by omega) (by omega)
  have w2i1 : wr .i64 (2 * (i : Int) + 1) = ((2 * i + 1 : Nat) : Int) := by rw [wrId (by omega) (by omega)]; omega
  by_cases c1 : (m : Int) < 6
  · simp (disch := as_aux_lemma => first | omega | simp only [hDs] <;> omega | simp [isCell]) [hRs, takeMarks, resA, resAll, resOne, Value.cells, k1_232, hX, hc7, hlv.len, c1]
    refine hret _ _ ?_
    simp
  by_cases c2 : (20 : Int) < m
  · simp (disch := as_aux_lemma => first | omega | simp only [hDs] <;> omega | simp [isCell]) [hRs, takeMarks, resA, resAll, resOne, Value.cells, k1_232, hX, hc7, hlv.len, c1, c2]
    refine hret _ _ ?_
    simp
  simp (disch := as_aux_lemma => first | omega | simp only [hDs] <;> omega | simp [isCell]) [hRs, takeMarks, resA, resAll, resOne, Value.cells, k1_232, hX, hc7, hlv.len, c1, c2]
  simp (disch := as_aux_lemma => first | omega | simp only [hDs] <;> omega | simp [isCell]) [hRs, takeMarks, resA, resAll, resOne, Value.cells, k2_232, hX, hca, w2i, w2i1]
  refine w137 hwB (by omega) (by omega) fun S zs sv A1 hcell hS hl e1 hacc => ?_
  have n1 := e1.1
  have hSc : partA S.cells 0 (some 8) = some (.agg ⟨S.cells⟩) := rfl
  have hsl0 : RdS A1 2 m (ints zs) sv := hacc.rd (by rw [ints_length]; exact hl.1) (by decide)
  simp (disch := as_aux_lemma => first | omega | simp only [hDs] <;> omega | simp [isCell]) [hRs, takeMarks, resA, resAll, resOne, Value.cells, Sec.cells, storeB_cells, setRange, set_push_eq]
  obtain ⟨A2, hA2⟩ : ∃ A2, A2 = A1.push (.cells S.cells false) := ⟨_, rfl⟩
  have hA2' : A1.push (.cells [.int .i64 S.cell, .int .i64 S.cl, .int .i64 S.ch, .int .i64 S.sl, .int .i64 S.sh, .int .i64 S.toe, .int .i64 S.wl, .int .i64 S.wh] false) = A2 := hA2.symm
  rw [hA2']
  have e2 : Ext' A1 A2 := by rw [hA2]; exact Ext'.push A1 _
  have hA2n : A2.n = A1.n + 1 := by rw [hA2]; rfl
  have hXS : A2.get A1.n = some (.cells S.cells false) := by rw [hA2, get_push_new]
  have hsl := e2.rdS hsl0
  simp (disch := as_aux_lemma => first | omega | simp only [hDs] <;> omega | simp [isCell]) [hRs, takeMarks, resA, resAll, resOne, Value.cells, k3_232, hXS, hSc]
  refine w122 hsl (by omega) (by omega) fun v A3 e3 hout => ?_
  have n3 := e3.1
  rcases hout with ⟨he, _⟩ | ⟨he, fa, fb, rfl, hfa, hfb⟩
  · exact absurd (hold_ok hS hl (by omega)) he
  · have rfa := hfa.rd (n := m + 1) (by rw [ints_length, crL_length]) (by decide)
    have rfb := hfb.rd (n := m + 1) (by rw [ints_length, stL_length]) (by decide)
    obtain ⟨p1, d1, rfl⟩ := rfa.isSlice
    obtain ⟨p2, d2, rfl⟩ := rfb.isSlice
    simp (disch := as_aux_lemma => first | omega | simp only [hDs] <;> omega | simp [isCell]) [hRs, takeMarks, resA, resAll, resOne, Value.cells, fateV, storeB_cells, setRange, set_push_eq]
    obtain ⟨A4, hA4⟩ : ∃ A4, A4 = A3.push (.cells [.slice p1 (m + 1) d1, .slice p2 (m + 1) d2, .int .i64 (holdS S zs m).may, .int .i64 (holdS S zs m).must] false) := ⟨_, rfl⟩
    rw [← hA4]
    have e4 : Ext' A3 A4 := by rw [hA4]; exact Ext'.push A3 _
    have hA4n : A4.n = A3.n + 1 := by rw [hA4]; rfl
    have hXF : A4.get A3.n = some (.cells [.slice p1 (m + 1) d1, .slice p2 (m + 1) d2, .int .i64 (holdS S zs m).may, .int .i64 (holdS S zs m).must] false) := by rw [hA4, get_push_new]
    simp (disch := as_aux_lemma => first | omega | simp only [hDs] <;> omega | simp [isCell]) [hRs, takeMarks, resA, resAll, resOne, Value.cells, k4_232]
    refine hQ _ A4 S zs m sv _ _ A1.n A3.n ?_ (eB.trans (e1.trans (e2.trans (e3.trans e4)))) (by omega) hcell hS hl ((e3.trans e4).rdS hsl) (fun z hz => by have := (hacc.blk_ge hz).1; omega) ((e3.trans e4).get hXS) (by omega) hXF (by omega) (by omega) (e4.rdS rfa) (e4.rdS rfb) (fun z hz => by have := (hfa.blk_ge hz).1; omega) (fun z hz => by have := (hfb.blk_ge hz).1; omega) ?_ ?_ ?_
    · simp [kT]
    · simp
    · simp
    · simp
end
end Go.Ab.Dike
namespace Go.Ab.Dike
open Go Go.Ab
def k5_232 : ACode := (.ops [
oM 136 19,
oD 137 24 8,
oP 138 (.slit 1 8 [.int .i64 0, .int .i64 0, .int .i64 0, .int .i64 0, .int .i64 0, .int .i64 0, .int .i64 0, .int .i64 0] [(0, .t 137)]),
oP 139 (.append (.t 136) (.t 138) 8 64),
oM 140 20,
⟨some 141, none, [(.t 136, 0, .t 26, 4)], .load (.t 26) (some 4)⟩,
oP 142 (.slit 1 4 [.slice none 0 0, .slice none 0 0, .int .i64 0, .int .i64 0] [(0, .t 141)]),
oP 143 (.append (.t 140) (.t 142) 4 64),
oM 19 139,
oM 20 143])
section
variable {g : Nat} {rd : Option Nat} {T : List Value} {D : List Nat} {A : Hp} {Q : Ex → St → Prop} {V : Value → Hp → Prop}
theorem kB232 {N i XS XF m : Nat} {ss lv : List Int} {cells : List Value} {s19 s20 fa fb : Value} {S : Sec} (h19 : AccS N A 8 (ints ss) s19) (h20 : AccS N A 4 cells s20) (hsl : ss.length = i * 8) (hcl : cells.length = i * 4) (hi : i < 4) (hg : g ≤ N) (hN : N ≤ A.n)
    (hd : ∀ z, blkOf s19 = some z → blkOf s20 ≠ some z) (d19 : ∀ z, blkOf s19 = some z → z ≠ XF ∧ z ≠ XS) (d20 : ∀ z, blkOf s20 = some z → z ≠ XF) (hXS : A.get XS = some (.cells S.cells false)) (hXF : A.get XF = some (.cells [fa, fb, .int .i64 (holdS S lv m).may, .int .i64 (holdS S lv m).must] false))
    (hfa : ∃ p n c, fa = .slice p n c) (hfb : ∃ p n c, fb = .slice p n c) (t19 : tget T 19 = s19) (t20 : tget T 20 = s20) (t24 : tget T 24 = .pointer (some ⟨XS, 0, none⟩)) (t26 : tget T 26 = .pointer (some ⟨XF, 0, none⟩))
    (hQ : ∀ T' A' s19' s20', KeepT [0, 1, 2, 3, 4, 11, 14, 15, 21, 24, 25, 26, 102, 103, 104] T T' → tget T' 19 = s19' → tget T' 20 = s20' → AccS N A' 8 (ints (ss ++ secL S)) s19' → AccS N A' 4 (cells ++ [fa, fb, .int .i64 (holdS S lv m).may, .int .i64 (holdS S lv m).must]) s20' → A.n ≤ A'.n → (∀ z, z < A.n → blkOf s19 ≠ some z → blkOf s20 ≠ some z → A'.get z = A.get z) →
      (∀ z, blkOf s19' = some z → A.n ≤ z) → (∀ z, blkOf s20' = some z → A.n ≤ z) → (∀ z, blkOf s19' = some z → blkOf s20' ≠ some z) → Q .normal ⟨T', D, A'⟩) :
    W AP KL g rd k5_232 ⟨T, D, A⟩ Q := by
  have hSc : partA S.cells 0 (some 8) = some (.agg ⟨S.cells⟩) := rfl
  have hXFn := Hp.lt_of_get hXF
  have hXSn := Hp.lt_of_get hXS
  obtain ⟨mm, hmm⟩ : ∃ mm, mm = (holdS S lv m).may := ⟨_, rfl⟩
  obtain ⟨mu, hmu⟩ : ∃ mu, mu = (holdS S lv m).must := ⟨_, rfl⟩
  rw [← hmm, ← hmu] at hXF hQ
  obtain ⟨s19', A2, ha, acc2, hold2, hn2, hb2⟩ := add_keep (g := g) (bytes := 64) (n := i) (ro := false) (new := S.cells) h19 hg (by omega) rfl (by decide) rfl (by rw [ints_length, hsl]) (by unfold room; omega)
  have hXF2 : A2.get XF = some (.cells [fa, fb, .int .i64 mm, .int .i64 mu] false) := by rw [hold2 XF hXFn (fun h => (d19 _ h).1 rfl)]; exact hXF
  have acc20 : AccS N A2 4 cells s20 := AccS.keepB h20 fun z hz => hold2 z (h20.blk_ge hz).2 fun h => hd z h hz
  have hcc : ([fa, fb, .int .i64 mm, .int .i64 mu] : List Value).all isCell = true := by
    obtain ⟨_, _, _, rfl⟩ := hfa
    obtain ⟨_, _, _, rfl⟩ := hfb
    rfl
  obtain ⟨s20', A3, ha3, acc3, hold3, hn3, hb3⟩ := add_keep (g := g) (bytes := 64) (n := i) (ro := false) (new := [fa, fb, .int .i64 mm, .int .i64 mu]) acc20 hg (by omega) rfl (by decide) hcc hcl (by unfold room; omega)
  have acc19 : AccS N A3 8 (ints ss ++ S.cells) s19' := AccS.keepB acc2 fun z hz => hold3 z (acc2.blk_ge hz).2 fun h => by
    have q1 := Option.some.inj (hb2.symm.trans hz)
    have := (h20.blk_ge h).2
    omega
  have hfin : ∀ {T'' : List Value}, KeepT [0, 1, 2, 3, 4, 11, 14, 15, 21, 24, 25, 26, 102, 103, 104] T T'' → tget T'' 19 = s19' → tget T'' 20 = s20' → Q .normal ⟨T'', D, A3⟩ := fun hk u19 u20 => by
    refine hQ _ A3 s19' s20' hk u19 u20 (by rw [ints_append]; exact acc19) acc3 (by omega) (fun z hz h1 h2 => ?_) (fun z hz => ?_) (fun z hz => ?_) fun z hz h => ?_
    · rw [hold3 z (by omega) h2, hold2 z hz h1]
    · have q1 := Option.some.inj (hb2.symm.trans hz); omega
    · have q1 := Option.some.inj (hb3.symm.trans hz); omega
    · have q1 := Option.some.inj (hb2.symm.trans hz)
      have q2 := Option.some.inj (hb3.symm.trans h)
      have := (acc2.blk_ge hb2).2
      omega
  have hsf : s19 = .slice none 0 0 ∨ ∃ y k, s19 = .slice (some ⟨y, 0, some 8⟩) k k ∧ y ≠ XF := by
    rcases h19 with ⟨h, _⟩ | ⟨y, k, h, hy, hy2, _⟩
    · exact .inl h
    · exact .inr ⟨y, k, h, (d19 y (by rw [h]; rfl)).1⟩
  have ha' := ha
  have ha3' := ha3
  unfold Sec.cells at ha'
  rcases hsf with h | ⟨y, k, h, hy⟩
  · subst h
    simp (disch := as_aux_lemma => first | omega | simp only [hDs] <;> omega | simp [isCell]) [hRs, takeMarks, resA, resAll, resOne, Value.cells, k5_232, t19, t20, t24, t26, hXS, hSc, Sec.cells, slitA, fillA, setRange, ha', hXF2, ha3', apartA]
    exact hfin (by simp) (by simp) (by simp)
  · subst h
    simp (disch := as_aux_lemma => first | omega | simp only [hDs] <;> omega | simp [isCell]) [hRs, takeMarks, resA, resAll, resOne, Value.cells, k5_232, t19, t20, t24, t26, hXS, hSc, Sec.cells, slitA, fillA, setRange, ha', hXF2, ha3', apartA, hy, Ne.symm hy]
    exact hfin (by simp) (by simp) (by simp)
end
end Go.Ab.Dike
namespace Go.Ab.Dike
open Go Go.Ab
def k6_232 : ACode := (.ops [
oD 145 24 8,
oM 146 25,
oM 147 14,
oA 148 139 [.t 145, .t 146, .t 147] false,
oM 144 148,
oX 149 144 0,
oX 150 144 1,
oX 151 144 2,
oM 28 149,
oM 29 150,
oM 30 151])
def k7_232 : ACode := (.seq
 (.ops [
oM 152 30,
oC 153 .lss 152 0,
oM 154 153,
oN 155 154 false 30,
oN 156 154 false 21,
oQ 157 154 false (.bin .geq (.t 155) (.t 156)),
oP 158 (.pick (.t 154) (.k (.bool true)) (.t 157))])
 (.cond (.t 158)
 (.seq
 (.ops [
oF 159 15 3,
oL 160 159,
oF 161 24 0,
oL 162 161,
oI 163 160 162 2,
oF 164 163 0,
oL 165 164,
oM 166 28,
oM 167 21,
oI 168 166 167 1,
oL 169 168,
oP 170 (.max [.t 165, .t 169]),
oM 31 170])
 (.ops [
oF 171 15 3,
oL 172 171,
oF 173 24 0,
oL 174 173,
oM 175 31,
oM 176 31,
oA 177 141 [.t 175, .t 176] true,
oI 178 172 174 2,
oT 178 177 2]))
 .skip))
section
variable {g : Nat} {rd : Option Nat} {T : List Value} {D : List Nat} {A : Hp} {Q : Ex → St → Prop} {V : Value → Hp → Prop}
theorem kD232 {i st X15 Y XS X3 : Nat} {ys cL : List Int} {S : Sec} {sa : Value} {n : Nat} {f : Int} (h15 : A.get X15 = some (.cells [.int .i64 8, .int .i64 1, .int .i64 10, .slice (some ⟨Y, 0, some 2⟩) 8 8] false)) (hY : A.get Y = some (.cells (ints ys) false)) (hyl : ys.length = 16) (hgY : g ≤ Y) (hXS : A.get XS = some (.cells S.cells false)) (hcell : S.cell = ((2 * i + 1 : Nat) : Int)) (hi : i < 4)
    (hsa : RdS A 1 (n + 1) (ints cL) sa) (hst : st ≤ n) (n15 : X15 ≠ Y) (nS : XS ≠ Y)
    (t15 : tget T 15 = .pointer (some ⟨X15, 0, none⟩)) (t21 : tget T 21 = .int .i64 st) (t24 : tget T 24 = .pointer (some ⟨XS, 0, none⟩)) (t28 : tget T 28 = sa) (t30 : tget T 30 = .int .i64 f)
    (hQ : ∀ T' A', KeepT [0, 1, 2, 3, 4, 11, 14, 15, 19, 20, 21, 102, 103, 104] T T' → A'.get Y = some (.cells (ints (realN ys i st f cL)) false) → But Y A A' → Q .normal ⟨T', D, A'⟩) :
    W AP KL g rd k7_232 ⟨T, D, A⟩ Q := by
  have hXS' := hXS
  unfold Sec.cells at hXS'
  rw [hcell] at hXS'
  obtain ⟨k, hk⟩ : ∃ k, k = 2 * i + 1 := ⟨_, rfl⟩
  rw [← hk] at hXS'
  have hk8 : (k : Int) < 8 := by omega
  obtain ⟨p, c, ro, rfl, hp⟩ := hsa.at (i := st) (by omega)
  have hcl := hsa.1
  rw [ints_length] at hcl
  have i1 := ints_two (l := ys) (o := k * 2) (by omega)
  have i0 := ints_get (l := ys) (o := k * 2) (by omega)
  have i2 := ints_get (l := cL) (o := st) (by omega)
  have hsn : (st : Int) < ((n + 1 : Nat) : Int) := by omega
  obtain ⟨n1, hn1⟩ : ∃ n1, n1 = n + 1 := ⟨_, rfl⟩
  rw [← hn1] at hsn
  rw [← hn1] at t28
  obtain ⟨v, hv⟩ : ∃ v, v = max (gi ys (k * 2)) (gi cL st) := ⟨_, rfl⟩
  have hmx : maxA [Value.int .i64 (gi ys (k * 2)), .int .i64 (gi cL st)] = some (.int .i64 v) := by rw [hv]; exact maxA_two'
  have main : (f < 0 ∨ (st : Int) ≤ f) → ∀ {A1 : Hp}, Ext' A A1 → ∃ A2, storeB (some (.cells (ints ys) false)) g A1 Y (k * 2) [.int .i64 v, .int .i64 v] 2 = some (undef, A2) ∧ ∀ {T1 : List Value}, KeepT [0, 1, 2, 3, 4, 11, 14, 15, 19, 20, 21, 102, 103, 104] T T1 → Q .normal ⟨T1, D, A2⟩ := fun hc A1 e1 => by
    have hY1 := e1.get hY
    refine ⟨_, storeB_cells rfl hgY (by rw [ints_length]; omega) rfl, fun {T1} hk1 => ?_⟩
    rw [setRange_two (by omega)]
    refine hQ _ _ hk1 ?_ ⟨by simp; exact e1.1, fun z hz hzY => ?_⟩
    · rw [get_set_same hY1]
      unfold realN
      rw [if_pos hc, ← hk, ← hv]
    · rw [get_set_ne (Hp.lt_of_get hY1) hzY, e1.2 z hz]
  by_cases c1 : f < 0
  · simp (disch := as_aux_lemma => first | omega | simp only [hDs] <;> omega | simp [isCell]) [hRs, takeMarks, resA, resAll, resOne, Value.cells, k7_232, t15, t21, t24, t28, t30, c1, h15, hXS', hY, hk8, idxSA_ok, i1, i0, i2, hp, hsn, hmx]
    refine w141 (Nat.le_refl _) fun A1 e1 => ?_
    obtain ⟨A2, h1, h2⟩ := main (.inl c1) e1
    simp (disch := as_aux_lemma => first | omega | simp only [hDs] <;> omega | simp [isCell]) [hRs, takeMarks, resA, resAll, resOne, Value.cells, t15, t24, e1.get h15, e1.get hXS', hk8, idxSA_ok, e1.get hY, h1]
    exact h2 (by simp)
  · by_cases c2 : (st : Int) ≤ f
    · simp (disch := as_aux_lemma => first | omega | simp only [hDs] <;> omega | simp [isCell]) [hRs, takeMarks, resA, resAll, resOne, Value.cells, k7_232, t15, t21, t24, t28, t30, c1, c2, h15, hXS', hY, hk8, idxSA_ok, i1, i0, i2, hp, hsn, hmx]
      refine w141 (Nat.le_refl _) fun A1 e1 => ?_
      obtain ⟨A2, h1, h2⟩ := main (.inr c2) e1
      simp (disch := as_aux_lemma => first | omega | simp only [hDs] <;> omega | simp [isCell]) [hRs, takeMarks, resA, resAll, resOne, Value.cells, t15, t24, e1.get h15, e1.get hXS', hk8, idxSA_ok, e1.get hY, h1]
      exact h2 (by simp)
    · simp (disch := as_aux_lemma => first | omega | simp only [hDs] <;> omega | simp [isCell]) [hRs, takeMarks, resA, resAll, resOne, Value.cells, k7_232, t15, t21, t24, t28, t30, c1, c2]
      refine hQ _ A (by simp) ?_ ⟨Nat.le_refl _, fun _ _ _ => rfl⟩
      unfold realN
      rw [if_neg (by omega)]
      exact hY
end
end Go.Ab.Dike
namespace Go.Ab.Dike
open Go Go.Ab
def kh_232 : ACode := (.ops [
oB 105 .lss 104 103])
def kc_232 : ACode := (.cond (.t 105)
 .skip
 (.exit 4))
def kx_232 : ACode := (.ops [
oC 179 .add 104 1,
oM 104 179])
theorem eq232c : body232c = .seq kh_232 (.seq kc_232 (.seq (.block 5 (.seq k0_232 (.seq k1_232 (.seq k2_232 (.seq k3_232 (.seq k4_232 (.seq k5_232 (.seq k6_232 k7_232)))))))) kx_232)) := rfl
theorem KeepT.sub {l l' : List Nat} {T T' : List Value} (h : KeepT l T T') (hl : l'.all (fun i => l.contains i) = true) : KeepT l' T T' := fun i hi => h.at i (List.all_eq_true.1 hl i hi)
def FK (N : Nat) (A : Hp) (cells : List Value) (s19 s20 : Value) (j : Nat) (f : FT) : Prop :=
  ∃ a b, cellAt cells (j * 4) = some a ∧ cellAt cells (j * 4 + 1) = some b ∧ cellAt cells (j * 4 + 2) = some (.int .i64 f.may) ∧ cellAt cells (j * 4 + 3) = some (.int .i64 f.must) ∧ RdS A 2 f.cn (ints f.cz) a ∧ RdS A 2 f.sn (ints f.sz) b ∧
    ∀ z, blkOf a = some z ∨ blkOf b = some z → N ≤ z ∧ blkOf s19 ≠ some z ∧ blkOf s20 ≠ some z
theorem FK.at {N : Nat} {A : Hp} {cells : List Value} {s19 s20 : Value} {j : Nat} {f : FT} (h : FK N A cells s19 s20 j f) : FateAt A cells j f := by
  obtain ⟨a, b, h1, h2, h3, h4, h5, h6, _⟩ := h
  exact ⟨a, b, part4 h1 h2 h3 h4, h1, h2, h3, h4, h5, h6⟩
theorem FK.keep {N : Nat} {A A' : Hp} {cells : List Value} {s19 s20 : Value} {j : Nat} {f : FT} (h : FK N A cells s19 s20 j f) (hA : ∀ z, N ≤ z → z < A.n → blkOf s19 ≠ some z → blkOf s20 ≠ some z → A'.get z = A.get z) : FK N A' cells s19 s20 j f := by
  obtain ⟨a, b, h1, h2, h3, h4, h5, h6, h7⟩ := h
  refine ⟨a, b, h1, h2, h3, h4, h5.keepB fun z hz => ?_, h6.keepB fun z hz => ?_, h7⟩
  · obtain ⟨q1, q2, q3⟩ := h7 z (.inl hz); exact hA z q1 (h5.blk_lt hz) q2 q3
  · obtain ⟨q1, q2, q3⟩ := h7 z (.inr hz); exact hA z q1 (h6.blk_lt hz) q2 q3
theorem FK.next {N : Nat} {A : Hp} {cells new : List Value} {s19 s20 s19' s20' : Value} {j : Nat} {f : FT} (h : FK N A cells s19 s20 j f) (h19 : ∀ z, blkOf s19' = some z → A.n ≤ z) (h20 : ∀ z, blkOf s20' = some z → A.n ≤ z) : FK N A (cells ++ new) s19' s20' j f := by
  obtain ⟨a, b, h1, h2, h3, h4, h5, h6, h7⟩ := h
  refine ⟨a, b, cellAt_left h1, cellAt_left h2, cellAt_left h3, cellAt_left h4, h5, h6, fun z hz => ⟨(h7 z hz).1, fun h => ?_, fun h => ?_⟩⟩
  · have := h19 z h
    rcases hz with hz | hz
    · have := h5.blk_lt hz; omega
    · have := h6.blk_lt hz; omega
  · have := h20 z h
    rcases hz with hz | hz
    · have := h5.blk_lt hz; omega
    · have := h6.blk_lt hz; omega
section
variable {g : Nat} {rd : Option Nat} {T : List Value} {D : List Nat} {A : Hp} {Q : Ex → St → Prop} {V : Value → Hp → Prop}
theorem loop232c {E0 A1 : Hp} {X15 Y X3 X1 n st : Nat} {sl : Value} {zs : List Int} (hW : Walls E0 n sl) (hn : n ≤ 4) (hst : st ≤ 5) (he0 : Ext' E0 A1) (hX3 : E0.n ≤ X3) (hX3n : X3 < A1.n) (hY : E0.n ≤ Y) (hYn : Y < A1.n) (n15 : X15 ≠ Y) (n153 : X15 ≠ X3) (nY3 : Y ≠ X3) (hg : g ≤ E0.n)
    (h15 : A1.get X15 = some (.cells [.int .i64 8, .int .i64 1, .int .i64 10, .slice (some ⟨Y, 0, some 2⟩) 8 8] false)) (hch : ∀ (A' : Hp) (k : Int), But2 X3 Y A1 A' → A'.get X3 = some (.cells [.int .i64 k] false) → 0 ≤ k → Ch A' X3 X1 k)
    (t14 : tget T 14 = chF X3 X1) (t15 : tget T 15 = .pointer (some ⟨X15, 0, none⟩)) (t21 : tget T 21 = .int .i64 st) (t102 : tget T 102 = sl) (t103 : tget T 103 = .int .i64 n)
    (hret : ∀ T' A', tget T' 10 = .bool true → Q .ret ⟨T', D, A'⟩)
    (hQ : ∀ T' A' ss F ys s19 s20, KeepT [0, 1, 2, 3, 4, 11, 14, 15, 21] T T' → tget T' 19 = s19 → tget T' 20 = s20 → WIn n st zs ss F ys → But2 X3 Y A1 A' → A'.get Y = some (.cells (ints ys) false) → RdS A' 8 n (ints ss) s19 → Fates A' n F s20 → Q (.exit 4) ⟨T', D, A'⟩) :
    ∀ (k i : Nat) {T1 : List Value} {A : Hp} {ss ys : List Int} {F : Nat → FT} {cells : List Value} {s19 s20 : Value} {kk : Int}, i + k = n → KeepT [0, 1, 2, 3, 4, 11, 14, 15, 21, 102, 103] T T1 → tget T1 104 = .int .i64 i → tget T1 19 = s19 → tget T1 20 = s20 → WIn i st zs ss F ys → But2 X3 Y A1 A → A.get Y = some (.cells (ints ys) false) → Ch A X3 X1 kk → kk ≤ 8 + 42 * i →
      AccS A1.n A 8 (ints ss) s19 → AccS A1.n A 4 cells s20 → cells.length = i * 4 → (∀ z, blkOf s19 = some z → blkOf s20 ≠ some z) → (∀ j, j < i → FK A1.n A cells s19 s20 j (F j)) → W AP KL g rd (.loop body232c) ⟨T1, D, A⟩ Q := by
  intro k
  induction k with
  | zero =>
    intro i T1 A ss ys F cells s19 s20 kk hik hk t104 t19 t20 hWi hb hAY hc hkk a19 a20 hcl hd hF
    have : i = n := by omega
    subst this
    have u103 := (hk.at 103 rfl).trans t103
    rw [W_loop]
    simp (disch := as_aux_lemma => first | omega | simp only [hDs] <;> omega | simp [isCell]) [hRs, takeMarks, resA, resAll, resOne, Value.cells, body232c, u103, t104]
    refine hQ _ A ss F ys s19 s20 ?_ (by simp [t19]) (by simp [t20]) hWi hb hAY (a19.rd (by rw [ints_length, hWi.sl]) (by decide)) ⟨cells, a20.rd hcl (by decide), fun j hj => (hF j hj).at⟩
    simp [hk.at 0 rfl, hk.at 1 rfl, hk.at 2 rfl, hk.at 3 rfl, hk.at 4 rfl, hk.at 11 rfl, hk.at 14 rfl, hk.at 15 rfl, hk.at 21 rfl]
  | succ k ih =>
    intro i T1 A ss ys F cells s19 s20 kk hik hk t104 t19 t20 hWi hb hAY hc hkk a19 a20 hcl hd hF
    have u14 := (hk.at 14 rfl).trans t14
    have u15 := (hk.at 15 rfl).trans t15
    have u21 := (hk.at 21 rfl).trans t21
    have u102 := (hk.at 102 rfl).trans t102
    have u103 := (hk.at 103 rfl).trans t103
    have hbn := hb.1
    have he0n := he0.1
    have e3 : wr .i64 ((i : Int) + 1) = ((i + 1 : Nat) : Int) := by rw [wrId (by omega) (by omega)]; simp
    have eA : Ext' E0 A := ⟨by omega, fun z hz => by rw [hb.2 z (by omega) (by omega) (by omega), he0.2 z hz]⟩
    have hin : (i : Int) < n := by omega
    have hin' : i < n := by omega
    rw [W_loop, eq232c]
    simp (disch := as_aux_lemma => first | omega | simp only [hDs] <;> omega | simp [isCell]) [hRs, takeMarks, resA, resAll, resOne, Value.cells, kh_232, kc_232, u103, t104, hin, hin']
    rw [← W_seq]
    refine kA232 (hW.mono eA) hn hin' (by omega) (by simp [u102]) (by simp [t104]) (fun T' A' h => ?_) fun T2 A2 S lv m xs fa fb XS XF k2 e2 hm hcell hS hl rxs bxs hXS hXSn hXF hXFn hXFl rfa rfb bfa bfb v24 v25 v26 => ?_
    · simp (disch := as_aux_lemma => first | omega | simp only [hDs] <;> omega | simp [isCell]) [hRs, takeMarks, resA, resAll, resOne, Value.cells]
      exact hret _ _ h
    · have n2 := e2.1
      have hst2 : st ≤ m := by omega
      have old2 : ∀ z, z < A.n → A2.get z = A.get z := e2.2
      have u19 := (k2.at 19 rfl).trans (by simpa using t19)
      have u20 := (k2.at 20 rfl).trans (by simpa using t20)
      have a19' : AccS A1.n A2 8 (ints ss) s19 := a19.mono e2.2
      have a20' : AccS A1.n A2 4 cells s20 := a20.mono e2.2
      have b19 : ∀ z, blkOf s19 = some z → z < A.n := fun z hz => (a19.blk_ge hz).2
      have b20 : ∀ z, blkOf s20 = some z → z < A.n := fun z hz => (a20.blk_ge hz).2
      have hF2 : ∀ j, j < i → FK A1.n A2 cells s19 s20 j (F j) := fun j hj => (hF j hj).keep fun z _ hz _ _ => e2.2 z hz
      rw [W_seq]
      refine kB232 (N := A1.n) (i := i) (XS := XS) (XF := XF) (m := m) (lv := lv) a19' a20' hWi.sl hcl (by omega) (by omega) (by omega) hd (fun z hz => by have := b19 z hz; omega) (fun z hz => by have := b20 z hz; omega) hXS hXF ?_ ?_ u19 u20 v24 v26 fun T3 A3 s19' s20' k3 w19 w20 c19 c20 n3 o3 f19 f20 d3 => ?_
      · obtain ⟨p, c, h⟩ := rfa.isSlice; exact ⟨p, _, c, h⟩
      · obtain ⟨p, c, h⟩ := rfb.isSlice; exact ⟨p, _, c, h⟩
      have o23 : ∀ z, z < A1.n → A3.get z = A.get z := fun z hz => by
        rw [o3 z (by omega) (fun h => by have := (a19.blk_ge h).1; omega) (fun h => by have := (a20.blk_ge h).1; omega), old2 z (by omega)]
      have o3n : ∀ z, A.n ≤ z → z < A2.n → A3.get z = A2.get z := fun z h1 h2 => o3 z h2 (fun h => by have := b19 z h; omega) fun h => by have := b20 z h; omega
      have hXS3 : A3.get XS = some (.cells S.cells false) := by rw [o3n XS hXSn (Hp.lt_of_get hXS)]; exact hXS
      have rxs3 : RdS A3 2 m (ints lv) xs := rxs.keepB fun z hz => o3n z (bxs z hz) (rxs.blk_lt hz)
      have hb3 : But2 X3 Y A1 A3 := ⟨by omega, fun z hz h1 h2 => by rw [o23 z hz, hb.2 z hz h1 h2]⟩
      have hc3 : Ch A3 X3 X1 kk := hch A3 kk hb3 (by rw [o23 X3 hX3n]; exact hc.next) hc.k0
      have hAY3 : A3.get Y = some (.cells (ints ys) false) := by rw [o23 Y hYn]; exact hAY
      have k3' := k3.at
      have v14 := (k3.at 14 rfl).trans ((k2.at 14 rfl).trans (by simpa using u14))
      have v15 := (k3.at 15 rfl).trans ((k2.at 15 rfl).trans (by simpa using u15))
      have v21 := (k3.at 21 rfl).trans ((k2.at 21 rfl).trans (by simpa using u21))
      have v24' := (k3.at 24 rfl).trans v24
      have v25' := (k3.at 25 rfl).trans v25
      have hSc : partA S.cells 0 (some 8) = some (.agg ⟨S.cells⟩) := rfl
      have hFi : FK A1.n A3 (cells ++ [fa, fb, .int .i64 (holdS S lv m).may, .int .i64 (holdS S lv m).must]) s19' s20' i (fateOf S m lv) := by
        have qa : ∀ z, blkOf fa = some z ∨ blkOf fb = some z → A.n ≤ z ∧ z < A2.n := fun z hz => by
          rcases hz with hz | hz
          · exact ⟨bfa z hz, rfa.blk_lt hz⟩
          · exact ⟨bfb z hz, rfb.blk_lt hz⟩
        refine ⟨fa, fb, ?_, ?_, ?_, ?_, rfa.keepB fun z hz => ?_, rfb.keepB fun z hz => ?_, fun z hz => ?_⟩
        · exact cellAt_right (o := 0) hcl rfl
        · exact cellAt_right (o := 1) hcl rfl
        · exact cellAt_right (o := 2) hcl rfl
        · exact cellAt_right (o := 3) hcl rfl
        · exact o3n z (qa z (.inl hz)).1 (qa z (.inl hz)).2
        · exact o3n z (qa z (.inr hz)).1 (qa z (.inr hz)).2
        · have q := qa z hz
          exact ⟨by omega, fun h => by have := f19 z h; omega, fun h => by have := f20 z h; omega⟩
      have hF3 : ∀ j, j < i + 1 → FK A1.n A3 (cells ++ [fa, fb, .int .i64 (holdS S lv m).may, .int .i64 (holdS S lv m).must]) s19' s20' j (putF F i (fateOf S m lv) j) := fun j hj => by
        by_cases hji : j = i
        · subst hji; rw [putF_self]; exact hFi
        · rw [putF_lt (by omega)]
          have := (hF2 j (by omega)).next (new := [fa, fb, .int .i64 (holdS S lv m).may, .int .i64 (holdS S lv m).must]) f19 f20
          obtain ⟨a, b, h1, h2, h3, h4, h5, h6, h7⟩ := this
          obtain ⟨a', b', g1, g2, g3, g4, g5, g6, g7⟩ := hF2 j (by omega)
          have ea : a = a' := Option.some.inj (h1.symm.trans (cellAt_left g1))
          have eb : b = b' := Option.some.inj (h2.symm.trans (cellAt_left g2))
          subst ea
          subst eb
          exact ⟨a, b, h1, h2, h3, h4, h5.keepB fun z hz => o3 z (h5.blk_lt hz) (g7 z (.inl hz)).2.1 (g7 z (.inl hz)).2.2, h6.keepB fun z hz => o3 z (h6.blk_lt hz) (g7 z (.inr hz)).2.1 (g7 z (.inr hz)).2.2, h7⟩
      simp only [SeqQ_normal]
      rw [W_seq]
      simp (disch := as_aux_lemma => first | omega | simp only [hDs] <;> omega | simp [isCell]) [hRs, takeMarks, resA, resAll, resOne, Value.cells, k6_232, v14, v24', v25', hXS3, hSc]
      refine w139 (S := S) rxs3 (fun z hz => by have := bxs z hz; omega) hS hl (by omega) hc3 (by omega) (by omega) (by omega) fun A4 kk' c h f cL hL sa sb b4 hc4 hk4 hliv hlst ra rb => ?_
      have n4 := b4.1
      have h15' : A4.get X15 = some (.cells [.int .i64 8, .int .i64 1, .int .i64 10, .slice (some ⟨Y, 0, some 2⟩) 8 8] false) := by
        have hx := Hp.lt_of_get h15
        rw [b4.2 X15 (by omega) n153, hb3.2 X15 hx n153 n15]; exact h15
      simp (disch := as_aux_lemma => first | omega | simp only [hDs] <;> omega | simp [isCell]) [hRs, takeMarks, resA, resAll, resOne, Value.cells]
      refine kD232 (i := i) (st := st) (X15 := X15) (Y := Y) (XS := XS) (X3 := X3) (n := m) (f := f) h15' ((b4.2 Y (by omega) nY3).trans hAY3) hWi.yl (by omega) ((b4.2 XS (Hp.lt_of_get hXS3) (by omega)).trans hXS3) hcell (by omega) ra hst2 n15 (by omega) ?_ ?_ ?_ ?_ ?_ fun T5 A5 k5 hY5 b5 => ?_
      · simp [v15]
      · simp [v21]
      · simp [v24']
      · simp
      · simp
      have n5 := b5.1
      have o5 : ∀ z, z < A3.n → z ≠ X3 → z ≠ Y → A5.get z = A3.get z := fun z hz h1 h2 => by rw [b5.2 z (by omega) h2, b4.2 z hz h1]
      have hb5 : But2 X3 Y A1 A5 := ⟨by omega, fun z hz h1 h2 => by rw [o5 z (by omega) h1 h2, hb3.2 z hz h1 h2]⟩
      have x104 := (k5.at 104 rfl)
      have y104 := (k3.at 104 rfl).trans ((k2.at 104 rfl).trans (by simpa using t104))
      have x104' : tget T5 104 = .int .i64 i := by rw [x104]; simp [y104]
      have kk5 : KeepT [0, 1, 2, 3, 4, 11, 14, 15, 21, 102, 103] T1 T5 := by
        refine KeepT.trans ?_ ((k2.sub (by decide)).trans (KeepT.trans (k3.sub (by decide)) (KeepT.trans ?_ (k5.sub (by decide)))))
        · simp
        · simp
      have x19 : tget T5 19 = s19' := by rw [k5.at 19 rfl]; simp [w19]
      have x20 : tget T5 20 = s20' := by rw [k5.at 20 rfl]; simp [w20]
      simp (disch := as_aux_lemma => first | omega | simp only [hDs] <;> omega | simp [isCell]) [hRs, takeMarks, resA, resAll, resOne, Value.cells, kx_232, x104', e3]
      refine ih (i + 1) (kk := kk') (by omega) ((hk.trans kk5).trans (by simp)) (by simp) ?_ ?_ (hWi.next (by omega) hS hcell hl hm hst hliv hlst) hb5 hY5 (hch A5 kk' hb5 ?_ hc4.k0) (by omega) (s19 := s19') (s20 := s20') ?_ ?_ (by simp [hcl]; omega) d3 fun j hj => (hF3 j hj).keep fun z h1 h2 _ _ => o5 z h2 (by omega) (by omega)
      · simp [x19]
      · simp [x20]
      · rw [b5.2 X3 (by omega) (Ne.symm nY3)]; exact hc4.next
      · exact AccS.keepB c19 fun z hz => o5 z (c19.blk_ge hz).2 (by have := (c19.blk_ge hz).1; omega) (by have := (c19.blk_ge hz).1; omega)
      · exact AccS.keepB c20 fun z hz => o5 z (c20.blk_ge hz).2 (by have := (c20.blk_ge hz).1; omega) (by have := (c20.blk_ge hz).1; omega)
end
end Go.Ab.Dike
