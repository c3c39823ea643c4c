/- the reference: spill. -/
import Derived.Test.YtmmpjfknmdlpoaaZ18
set_option linter.unusedSimpArgs false
set_option linter.unusedVariables false
set_option linter.unusedSectionVars false
namespace Go.Ab.Wave
open Go Go.Ab
theorem eqv4 {a b c d a' b' c' d' : Int} : eqvA true [false, false, false, false] (.agg ⟨[.int .i64 a, .int .i64 b, .int .i64 c, .int .i64 d]⟩) (.agg ⟨[.int .i64 a', .int .i64 b', .int .i64 c', .int .i64 d']⟩) =
    some (.bool (!(decide (a = a') && (decide (b = b') && (decide (c = c') && decide (d = d')))))) := by
  simp [eqvA, eqCells, cellEq, kEq]
  rfl
def passR (P : Par) (a b : Nat) (v : Nat → List Int) : Nat → List Int := passD P a b (passU P a b v)
def flag4 (v v' : Nat → List Int) (b : Nat) : Bool := !(decide (gi (v 0) b = gi (v' 0) b) && (decide (gi (v 1) b = gi (v' 1) b) && (decide (gi (v 2) b = gi (v' 2) b) && decide (gi (v 3) b = gi (v' 3) b))))
theorem passU_val {P : Par} (hP : POk (P.at true)) {v : Nat → List Int} (h : VOk P v) (hn : ∀ i, i < 9 → (v i).length = P.l.length) {a b : Nat} (ha : a < P.l.length) (hb : b < P.l.length) : VOk P (passU P a b v) := by
  unfold passU passA
  split
  · rename_i hc
    have hcr := hP.cross (open_dep hc.1).1 (open_dep hc.1).2
    have n0 := hn 0 (by omega)
    have n3 := hn 3 (by omega)
    have p1 := h.a0 a ha
    have p2 := h.a0 b hb
    have q1 := h.a3 a ha
    have q2 := h.a3 b hb
    have hsp := spS_le hP (a := a) (b := b) q1.1
    have hsp' : 0 ≤ dv (P.at true).up (gi (v 3) a * ofE (P.at true).up (P.at true).k0 (P.at true).k1) 1024 ∧ dv (P.at true).up (gi (v 3) a * ofE (P.at true).up (P.at true).k0 (P.at true).k1) 1024 ≤ gi (v 3) a := hsp
    refine ⟨fun c hc' => ?_, fun c hc' => h.a1 c hc', fun c hc' => h.a2 c hc', fun c hc' => ?_⟩
    · show 0 ≤ gi ((v 0).set b _) c ∧ gi ((v 0).set b _) c ≤ Never
      rw [gi_set (by omega)]
      have := h.a0 c hc'
      split <;> omega
    · show 0 ≤ gi ((v 3).set b _) c ∧ gi ((v 3).set b _) c ≤ 200000000
      rw [gi_set (by omega)]
      have := h.a3 c hc'
      split <;> omega
  · simp only [upd_same]; exact h
section
variable {g : Nat} {A : Hp} {V : Value → Hp → Prop} {P : Par} {X rd : Nat} {r : Nat → Nat} {v : Nat → List Int} {a b : Nat}
theorem w74 (hu : POk (P.at true)) (hl : POk (P.at false)) (hW : Work A P X rd r v) (hO : VOk P v) (ha : a < P.l.length) (hb : b < P.l.length) (hg : ∀ i, i < 9 → g ≤ r i)
    (hQ : ∀ A', Keep (WK r) A A' → Work A' P X rd r (passR P a b v) → V (.bool (flag4 v (passR P a b v) b)) A') :
    WF AP KL g 74 [ptrV X, .int .i64 a, .int .i64 b] A V := by
  have hX := hW.hx
  have n0 := hW.nv 0 (by omega)
  have n1 := hW.nv 1 (by omega)
  have n2 := hW.nv 2 (by omega)
  have n3 := hW.nv 3 (by omega)
  have g0 := hg 0 (by omega)
  have hr0 := Hp.lt_of_get (hW.hv 0 (by omega))
  obtain ⟨bc, hbc⟩ : ∃ bc : List Value, bc = [.int .i64 (gi (v 0) b), .int .i64 (gi (v 1) b), .int .i64 (gi (v 2) b), .int .i64 (gi (v 3) b)] := ⟨_, rfl⟩
  obtain ⟨B, hB⟩ : ∃ B, B = A.push (.cells bc false) := ⟨_, rfl⟩
  have kB : Ext' A B := by rw [hB]; exact Ext'.push _ _
  have gB : B.get A.n = some (.cells bc false) := by rw [hB]; exact get_push_new
  have hB' := hB
  rw [hbc] at hB'
  rw [WF_body rfl AP74]
  simp (disch := as_aux_lemma => first | omega | simp only [hDs] <;> omega | simp [isCell]) [hRs, takeMarks, resA, resAll, resOne, Value.cells, h74, ptrV, hX, wkCells, rowS1, rowS2, idxSA_ok, show (b : Int) < P.l.length by omega, hW.hv 0, hW.hv 1, hW.hv 2, hW.hv 3, ints_get, fillA, setRange, storeB_cells, setRange_all, set_push_eq]
  rw [← hB']
  refine W_mono (r74a (B7 := A.n) (bc := bc) (A0 := B) hu hO ha hb hg ⟨hW.ext kB, gB, fun i hi => by have := Hp.lt_of_get (hW.hv i hi); omega, Keep.refl _ _, by simp [ptrV], by simp, by simp, by simp [ptrV]⟩) ?_
  rintro _ ⟨T1, D1, A1⟩ ⟨rfl, rfl, h1⟩
  simp (disch := as_aux_lemma => first | omega | simp only [hDs] <;> omega | simp [isCell]) [hRs, takeMarks, resA, resAll, resOne, Value.cells]
  refine W_mono (r74b hl (passU_val hu hO hW.nv ha hb) ha hb hg h1) ?_
  rintro _ ⟨T2, D2, A2⟩ ⟨rfl, rfl, h2⟩
  have hW2 := h2.w
  have hX2 : A2.get X = _ := hW2.hx
  have t0 : tget T2 0 = ptrV X := h2.t0
  have t2 : tget T2 2 = .int .i64 b := h2.t2
  have t7 : tget T2 7 = ptrV A.n := h2.t7
  have b7 : A2.get A.n = some (.cells bc false) := h2.b7
  rw [hbc] at b7
  have hW3 : Work A2 P X rd r (passR P a b v) := hW2
  have m0 := hW3.nv 0 (by omega)
  have m1 := hW3.nv 1 (by omega)
  have m2 := hW3.nv 2 (by omega)
  have m3 := hW3.nv 3 (by omega)
  simp (disch := as_aux_lemma => first | omega | simp only [hDs] <;> omega | simp [isCell]) [hRs, takeMarks, resA, resAll, resOne, Value.cells, t0, t2, t7, b7, ptrV, hX2, wkCells, rowS1, rowS2, idxSA_ok, show (b : Int) < P.l.length by omega, hW3.hv 0, hW3.hv 1, hW3.hv 2, hW3.hv 3, ints_get, fillA, setRange, eqv4]
  have := hQ A2 ((kB.keep _).trans h2.k) hW3
  unfold flag4 at this
  simp at this
  exact this
end
end Go.Ab.Wave
namespace Go.Ab.Wave
open Go Go.Ab
theorem refNb_nat {P : Par} (h : POk P) {c : Nat} (hc : c < P.l.length) : refNb P.w P.h c = (refN P c).map fun (x : Nat) => (x : Int) := by
  obtain ⟨hw, hh, _, hl⟩ := check_parts h.chk
  have hcb : 0 ≤ (c : Int) ∧ (c : Int) < P.w * P.h := ⟨by omega, by rw [← hl]; omega⟩
  unfold refN
  rw [List.map_map]
  conv => lhs; rw [← List.map_id (refNb P.w P.h c)]
  apply List.map_congr_left
  intro z hz
  rw [refNb_mem hw.1 hcb] at hz
  have := (nbrs_symm hw.1 hcb hz).1
  show z = ((z.toNat : Nat) : Int)
  omega
structure Rd where
  I : (Nat → List Int) → Prop
  pot : (Nat → List Int) → Nat
  step : Nat → Nat → (Nat → List Int) → (Nat → List Int)
  fl : Nat → Nat → (Nat → List Int) → Bool
structure RdOk (R : Rd) (P : Par) : Prop where
  keep : ∀ v a b, R.I v → a < P.l.length → b ∈ nbP P a → R.I (R.step a b v)
  quiet : ∀ v a b, R.I v → a < P.l.length → b ∈ nbP P a → R.fl a b v = false → R.step a b v = v
  down : ∀ v a b, R.I v → a < P.l.length → b ∈ nbP P a → R.fl a b v = true → R.pot (R.step a b v) < R.pot v
structure Rnd (R : Rd) (v0 v : Nat → List Int) (f : Bool) : Prop where
  i : R.I v
  q : f = false → v = v0
  d : f = true → R.pot v < R.pot v0
def Shut (R : Rd) (P : Par) (v : Nat → List Int) (c : Nat) : Prop := ∀ a, a ∈ refN P c → R.step a c v = v
theorem Rnd.step {R : Rd} {P : Par} (hR : RdOk R P) {v0 v : Nat → List Int} {f : Bool} (h : Rnd R v0 v f) {a b : Nat} (ha : a < P.l.length) (hb : b ∈ nbP P a) :
    Rnd R v0 (R.step a b v) (f || R.fl a b v) ∧ ((f || R.fl a b v) = false → R.step a b v0 = v0) := by
  cases hf : R.fl a b v
  · have hs := hR.quiet v a b h.i ha hb hf
    rw [Bool.or_false, hs]
    refine ⟨h, fun e => ?_⟩
    have := h.q e
    rw [← this]; exact hs
  · have hd := hR.down v a b h.i ha hb hf
    rw [Bool.or_true]
    refine ⟨⟨hR.keep v a b h.i ha hb, fun e => absurd e (by decide), fun _ => ?_⟩, fun e => absurd e (by decide)⟩
    cases f
    · rw [← h.q rfl]; exact hd
    · exact Nat.lt_trans hd (h.d rfl)
def body52o : ACode := (.seq
 (.seq
 (.ops [
oM 127 6])
 (.cond (.t 127)
 .skip
 (.exit 2)))
 (.block 3
 (.seq
 (.ops [
oP 6 (.move (.k (.bool false)))])
 (.seq
 (.ops [
oP 7 (.move (oK 0))])
 (.block 4
 (.loop
 body52c))))))
section
variable {g : Nat} {P : Par} {X rd : Nat} {r : Nat → Nat} {R : Rd} {D : List Nat} {rdd : Option Nat} {Q : Ex → St → Prop}
theorem loop52k (hP : POk P) (hR : RdOk R P) (hcall : ∀ (A : Hp) (v : Nat → List Int) (a b : Nat) (V : Value → Hp → Prop), Work A P X rd r v → R.I v → a < P.l.length → b ∈ nbP P a → (∀ A', Keep (WK r) A A' → Work A' P X rd r (R.step a b v) → V (.bool (R.fl a b v)) A') → WF AP KL g 74 [ptrV X, .int .i64 a, .int .i64 b] A V)
    {A0 : Hp} {c N : Nat} {v0 : Nat → List Int} {sv : Value} {f0 : Bool} (hc : c < P.l.length) (hN : ∀ i, i < 9 → r i < N) (hN0 : N ≤ A0.n)
    (hQ : ∀ T' A' v f, Keep (WK r) A0 A' → Work A' P X rd r v → Rnd R v0 v f → (f = false → f0 = false) → (f = false → Shut R P v0 c) → tget T' 0 = ptrV X → tget T' 6 = .bool f → tget T' 7 = .int .i64 c → Q (.exit 6) ⟨T', D, A'⟩) :
    ∀ (k i : Nat) (T : List Value) (A : Hp) (v : Nat → List Int) (f : Bool), i + k = (refN P c).length → Keep (WK r) A0 A → AccS N A 1 (ints ((refN P c).map fun (x : Nat) => (x : Int))) sv → Work A P X rd r v → Rnd R v0 v f → (f = false → f0 = false) → (f = false → ∀ j (h : j < (refN P c).length), j < i → R.step (refN P c)[j] c v0 = v0) →
      tget T 0 = ptrV X → tget T 6 = .bool f → tget T 7 = .int .i64 c → tget T 8 = sv → tget T 9 = .int .i64 i → W AP KL g rdd (.loop body52k) ⟨T, D, A⟩ Q := by
  have hl4 := refN_len (P := P) (c := c)
  intro k
  induction k with
  | zero =>
    intro i T A v f hi hk hacc hW hr hm hs t0 tf tc tn tk
    have e : i = (refN P c).length := by omega
    have hlen := hacc.lenI (n := (refN P c).length) (by simp) (by decide)
    rw [W_loop]
    simp (disch := as_aux_lemma => first | omega | simp only [hDs] <;> omega | simp [isCell]) [hRs, takeMarks, resA, resAll, resOne, Value.cells, body52k, tn, tk, hlen, show ¬ (i : Int) < ((refN P c).length : Int) by omega]
    refine hQ _ A v f hk hW hr hm (fun hf a ha => ?_) (by simp [t0]) (by simp [tf]) (by simp [tc])
    obtain ⟨j, hj, rfl⟩ := List.mem_iff_getElem.1 ha
    exact hs hf j hj (by omega)
  | succ k ih =>
    intro i T A v f hi hk hacc hW hr hm hs t0 tf tc tn tk
    have hil : i < (refN P c).length := by omega
    have hlen := hacc.lenI (n := (refN P c).length) (by simp) (by decide)
    obtain ⟨y, hsl, hy⟩ := hacc.someOf (n := (refN P c).length) (i := i) (by simp) hil (by decide)
    obtain ⟨a, ha⟩ : ∃ a, a = (refN P c)[i] := ⟨_, rfl⟩
    have hmem : a ∈ refN P c := by rw [ha]; exact List.getElem_mem hil
    obtain ⟨hal, hab⟩ := (refN_mem hP hc).1 hmem
    have hgi : gi ((refN P c).map fun (x : Nat) => (x : Int)) i = (a : Int) := by rw [gi_eq (by simpa using hil)]; simp [ha]
    rw [hsl] at tn hlen
    rw [W_loop]
    simp (disch := as_aux_lemma => first | omega | simp only [hDs] <;> omega | simp [isCell]) [hRs, takeMarks, resA, resAll, resOne, Value.cells, body52k, t0, tc, tn, tk, show (i : Int) < ((refN P c).length : Int) by omega, idxSA_ok, hy, ints_get (show i < ((refN P c).map fun (x : Nat) => (x : Int)).length by rw [List.length_map]; exact hil), hgi]
    refine hcall A v a c _ hW hr.i hal hab fun A' k' hW' => ?_
    obtain ⟨q1, q2⟩ := hr.step hR hal hab
    have hacc' : AccS N A' 1 (ints ((refN P c).map fun (x : Nat) => (x : Int))) sv := by
      rcases hacc with h | ⟨b, m, h1, h2, h3, h4, h5⟩
      · exact .inl h
      · exact .inr ⟨b, m, h1, by rw [k'.2 b (Hp.lt_of_get h2) (by rintro ⟨j, hj, e⟩; have := hN j hj; omega)]; exact h2, h3, h4, h5⟩
    have hs' : (f || R.fl a c v) = false → ∀ j (h : j < (refN P c).length), j < i + 1 → R.step (refN P c)[j] c v0 = v0 := by
      intro e j hj hji
      by_cases ej : j = i
      · subst ej
        rw [← ha]; exact q2 e
      · exact hs (by cases f <;> simp_all) j hj (by omega)
    cases hf : R.fl a c v
    · rw [hf] at q1 hs'
      rw [Bool.or_false] at q1 hs'
      simp (disch := as_aux_lemma => first | omega | simp only [hDs] <;> omega | simp [isCell]) [hRs, takeMarks, resA, resAll, resOne, Value.cells, tk]
      refine ih (i + 1) _ A' _ f (by omega) (hk.trans k') hacc' hW' q1 hm hs' ?_ ?_ ?_ ?_ ?_
      · simp [t0]
      · simp [tf]
      · simp [tc]
      · simp [tn, hsl]
      · simp [wrId (n := (i : Int) + 1) (by omega) (by omega)]
    · rw [hf] at q1 hs'
      rw [Bool.or_true] at q1 hs'
      simp (disch := as_aux_lemma => first | omega | simp only [hDs] <;> omega | simp [isCell]) [hRs, takeMarks, resA, resAll, resOne, Value.cells, tk]
      refine ih (i + 1) _ A' _ true (by omega) (hk.trans k') hacc' hW' q1 (fun e => absurd e (by decide)) hs' ?_ ?_ ?_ ?_ ?_
      · simp [t0]
      · simp
      · simp [tc]
      · simp [tn, hsl]
      · simp [wrId (n := (i : Int) + 1) (by omega) (by omega)]
theorem loop52c (hP : POk P) (hR : RdOk R P) (hcall : ∀ (A : Hp) (v : Nat → List Int) (a b : Nat) (V : Value → Hp → Prop), Work A P X rd r v → R.I v → a < P.l.length → b ∈ nbP P a → (∀ A', Keep (WK r) A A' → Work A' P X rd r (R.step a b v) → V (.bool (R.fl a b v)) A') → WF AP KL g 74 [ptrV X, .int .i64 a, .int .i64 b] A V)
    {A0 : Hp} {v0 : Nat → List Int} (hg : g ≤ A0.n)
    (hQ : ∀ T' A' v f, Keep (WK r) A0 A' → Work A' P X rd r v → Rnd R v0 v f → (f = false → ∀ c, c < P.l.length → Shut R P v0 c) → tget T' 0 = ptrV X → tget T' 6 = .bool f → Q (.exit 4) ⟨T', D, A'⟩) :
    ∀ (k i : Nat) (T : List Value) (A : Hp) (v : Nat → List Int) (f : Bool), i + k = P.l.length → Keep (WK r) A0 A → Work A P X rd r v → Rnd R v0 v f → (f = false → ∀ c, c < i → Shut R P v0 c) →
      tget T 0 = ptrV X → tget T 6 = .bool f → tget T 7 = .int .i64 i → W AP KL g rdd (.loop body52c) ⟨T, D, A⟩ Q := by
  have hsm := hP.small
  obtain ⟨hw, hh, _, _⟩ := check_parts hP.chk
  intro k
  induction k with
  | zero =>
    intro i T A v f hi hk hW hr hs t0 tf tc
    have e : i = P.l.length := by omega
    have hX := hW.hx
    rw [W_loop]
    simp (disch := as_aux_lemma => first | omega | simp only [hDs] <;> omega | simp [isCell]) [hRs, takeMarks, resA, resAll, resOne, Value.cells, body52c, t0, tc, ptrV, hX, wkCells, rowS2, show ¬ (i : Int) < (P.l.length : Int) by omega]
    exact hQ _ A v f hk hW hr (fun hf c hc => hs hf c (by omega)) (by simp [t0, ptrV]) (by simp [tf])
  | succ k ih =>
    intro i T A v f hi hk hW hr hs t0 tf tc
    have hil : i < P.l.length := by omega
    have hX := hW.hx
    have hkn := hk.1
    rw [W_loop]
    simp (disch := as_aux_lemma => first | omega | simp only [hDs] <;> omega | simp [isCell]) [hRs, takeMarks, resA, resAll, resOne, Value.cells, body52c, t0, tc, ptrV, hX, wkCells, rowS2, show (i : Int) < (P.l.length : Int) by omega]
    refine w73 (w := P.w) (h := P.h) (s := P.s) (sl := P.sl) (c := i) hw hh (by omega) (by omega) fun A1 sv k1 hacc => ?_
    rw [refNb_nat hP hil] at hacc
    simp (disch := as_aux_lemma => first | omega | simp only [hDs] <;> omega | simp [isCell]) [hRs, takeMarks, resA, resAll, resOne, Value.cells]
    refine loop52k (A0 := A1) (c := i) (N := A.n) (v0 := v0) (sv := sv) hP hR hcall hil (fun j hj => Hp.lt_of_get (hW.hv j hj)) k1.1 (f0 := f) (fun T' A2 v2 f2 k2 hW2 hr2 hm2 hs2 p0 pf pc => ?_) (refN P i).length 0 _ A1 v f (by omega) (Keep.refl _ _) hacc (hW.ext k1) hr id (fun _ j _ hj => by omega) ?_ ?_ ?_ ?_ ?_
    · simp (disch := as_aux_lemma => first | omega | simp only [hDs] <;> omega | simp [isCell]) [hRs, takeMarks, resA, resAll, resOne, Value.cells, pc]
      refine ih (i + 1) _ A2 v2 f2 (by omega) ((hk.trans (k1.keep _)).trans k2) hW2 hr2 ?_ ?_ ?_ ?_
      · intro hf c hc
        by_cases e : c = i
        · rw [e]; exact hs2 hf
        · exact hs (hm2 hf) c (by omega)
      · simp [p0]
      · simp [pf]
      · simp [wrId (n := (i : Int) + 1) (by omega) (by omega)]
    all_goals simp [t0, tf, tc, ptrV]
end
def body53o : ACode := (.seq
 (.seq
 (.ops [
oM 88 3])
 (.cond (.t 88)
 .skip
 (.exit 2)))
 (.block 3
 (.seq
 (.ops [
oP 3 (.move (.k (.bool false)))])
 (.seq
 (.ops [
oP 4 (.move (oK 0))])
 (.block 4
 (.loop
 body53c))))))
section
variable {g : Nat} {P : Par} {X rd : Nat} {r : Nat → Nat} {R : Rd} {D : List Nat} {rdd : Option Nat} {Q : Ex → St → Prop}
theorem loop53k (hP : POk P) (hR : RdOk R P) (hcall : ∀ (A : Hp) (v : Nat → List Int) (a b : Nat) (V : Value → Hp → Prop), Work A P X rd r v → R.I v → a < P.l.length → b ∈ nbP P a → (∀ A', Keep (WK r) A A' → Work A' P X rd r (R.step a b v) → V (.bool (R.fl a b v)) A') → WF AP KL g 77 [ptrV X, .int .i64 a, .int .i64 b] A V)
    {A0 : Hp} {c N : Nat} {v0 : Nat → List Int} {sv : Value} {f0 : Bool} (hc : c < P.l.length) (hN : ∀ i, i < 9 → r i < N) (hN0 : N ≤ A0.n)
    (hQ : ∀ T' A' v f, Keep (WK r) A0 A' → Work A' P X rd r v → Rnd R v0 v f → (f = false → f0 = false) → (f = false → Shut R P v0 c) → tget T' 0 = ptrV X → tget T' 3 = .bool f → tget T' 4 = .int .i64 c → Q (.exit 6) ⟨T', D, A'⟩) :
    ∀ (k i : Nat) (T : List Value) (A : Hp) (v : Nat → List Int) (f : Bool), i + k = (refN P c).length → Keep (WK r) A0 A → AccS N A 1 (ints ((refN P c).map fun (x : Nat) => (x : Int))) sv → Work A P X rd r v → Rnd R v0 v f → (f = false → f0 = false) → (f = false → ∀ j (h : j < (refN P c).length), j < i → R.step (refN P c)[j] c v0 = v0) →
      tget T 0 = ptrV X → tget T 3 = .bool f → tget T 4 = .int .i64 c → tget T 5 = sv → tget T 6 = .int .i64 i → W AP KL g rdd (.loop body53k) ⟨T, D, A⟩ Q := by
  have hl4 := refN_len (P := P) (c := c)
  intro k
  induction k with
  | zero =>
    intro i T A v f hi hk hacc hW hr hm hs t0 tf tc tn tk
    have e : i = (refN P c).length := by omega
    have hlen := hacc.lenI (n := (refN P c).length) (by simp) (by decide)
    rw [W_loop]
    simp (disch := as_aux_lemma => first | omega | simp only [hDs] <;> omega | simp [isCell]) [hRs, takeMarks, resA, resAll, resOne, Value.cells, body53k, tn, tk, hlen, show ¬ (i : Int) < ((refN P c).length : Int) by omega]
    refine hQ _ A v f hk hW hr hm (fun hf a ha => ?_) (by simp [t0]) (by simp [tf]) (by simp [tc])
    obtain ⟨j, hj, rfl⟩ := List.mem_iff_getElem.1 ha
    exact hs hf j hj (by omega)
  | succ k ih =>
    intro i T A v f hi hk hacc hW hr hm hs t0 tf tc tn tk
    have hil : i < (refN P c).length := by omega
    have hlen := hacc.lenI (n := (refN P c).length) (by simp) (by decide)
    obtain ⟨y, hsl, hy⟩ := hacc.someOf (n := (refN P c).length) (i := i) (by simp) hil (by decide)
    obtain ⟨a, ha⟩ : ∃ a, a = (refN P c)[i] := ⟨_, rfl⟩
    have hmem : a ∈ refN P c := by rw [ha]; exact List.getElem_mem hil
    obtain ⟨hal, hab⟩ := (refN_mem hP hc).1 hmem
    have hgi : gi ((refN P c).map fun (x : Nat) => (x : Int)) i = (a : Int) := by rw [gi_eq (by simpa using hil)]; simp [ha]
    rw [hsl] at tn hlen
    rw [W_loop]
    simp (disch := as_aux_lemma => first | omega | simp only [hDs] <;> omega | simp [isCell]) [hRs, takeMarks, resA, resAll, resOne, Value.cells, body53k, t0, tc, tn, tk, show (i : Int) < ((refN P c).length : Int) by omega, idxSA_ok, hy, ints_get (show i < ((refN P c).map fun (x : Nat) => (x : Int)).length by rw [List.length_map]; exact hil), hgi]
    refine hcall A v a c _ hW hr.i hal hab fun A' k' hW' => ?_
    obtain ⟨q1, q2⟩ := hr.step hR hal hab
    have hacc' : AccS N A' 1 (ints ((refN P c).map fun (x : Nat) => (x : Int))) sv := by
      rcases hacc with h | ⟨b, m, h1, h2, h3, h4, h5⟩
      · exact .inl h
      · exact .inr ⟨b, m, h1, by rw [k'.2 b (Hp.lt_of_get h2) (by rintro ⟨j, hj, e⟩; have := hN j hj; omega)]; exact h2, h3, h4, h5⟩
    have hs' : (f || R.fl a c v) = false → ∀ j (h : j < (refN P c).length), j < i + 1 → R.step (refN P c)[j] c v0 = v0 := by
      intro e j hj hji
      by_cases ej : j = i
      · subst ej
        rw [← ha]; exact q2 e
      · exact hs (by cases f <;> simp_all) j hj (by omega)
    cases hf : R.fl a c v
    · rw [hf] at q1 hs'
      rw [Bool.or_false] at q1 hs'
      simp (disch := as_aux_lemma => first | omega | simp only [hDs] <;> omega | simp [isCell]) [hRs, takeMarks, resA, resAll, resOne, Value.cells, tk]
      refine ih (i + 1) _ A' _ f (by omega) (hk.trans k') hacc' hW' q1 hm hs' ?_ ?_ ?_ ?_ ?_
      · simp [t0]
      · simp [tf]
      · simp [tc]
      · simp [tn, hsl]
      · simp [wrId (n := (i : Int) + 1) (by omega) (by omega)]
    · rw [hf] at q1 hs'
      rw [Bool.or_true] at q1 hs'
      simp (disch := as_aux_lemma => first | omega | simp only [hDs] <;> omega | simp [isCell]) [hRs, takeMarks, resA, resAll, resOne, Value.cells, tk]
      refine ih (i + 1) _ A' _ true (by omega) (hk.trans k') hacc' hW' q1 (fun e => absurd e (by decide)) hs' ?_ ?_ ?_ ?_ ?_
      · simp [t0]
      · simp
      · simp [tc]
      · simp [tn, hsl]
      · simp [wrId (n := (i : Int) + 1) (by omega) (by omega)]
theorem loop53c (hP : POk P) (hR : RdOk R P) (hcall : ∀ (A : Hp) (v : Nat → List Int) (a b : Nat) (V : Value → Hp → Prop), Work A P X rd r v → R.I v → a < P.l.length → b ∈ nbP P a → (∀ A', Keep (WK r) A A' → Work A' P X rd r (R.step a b v) → V (.bool (R.fl a b v)) A') → WF AP KL g 77 [ptrV X, .int .i64 a, .int .i64 b] A V)
    {A0 : Hp} {v0 : Nat → List Int} (hg : g ≤ A0.n)
    (hQ : ∀ T' A' v f, Keep (WK r) A0 A' → Work A' P X rd r v → Rnd R v0 v f → (f = false → ∀ c, c < P.l.length → Shut R P v0 c) → tget T' 0 = ptrV X → tget T' 3 = .bool f → Q (.exit 4) ⟨T', D, A'⟩) :
    ∀ (k i : Nat) (T : List Value) (A : Hp) (v : Nat → List Int) (f : Bool), i + k = P.l.length → Keep (WK r) A0 A → Work A P X rd r v → Rnd R v0 v f → (f = false → ∀ c, c < i → Shut R P v0 c) →
      tget T 0 = ptrV X → tget T 3 = .bool f → tget T 4 = .int .i64 i → W AP KL g rdd (.loop body53c) ⟨T, D, A⟩ Q := by
  have hsm := hP.small
  obtain ⟨hw, hh, _, _⟩ := check_parts hP.chk
  intro k
  induction k with
  | zero =>
    intro i T A v f hi hk hW hr hs t0 tf tc
    have e : i = P.l.length := by omega
    have hX := hW.hx
    rw [W_loop]
    simp (disch := as_aux_lemma => first | omega | simp only [hDs] <;> omega | simp [isCell]) [hRs, takeMarks, resA, resAll, resOne, Value.cells, body53c, t0, tc, ptrV, hX, wkCells, rowS2, show ¬ (i : Int) < (P.l.length : Int) by omega]
    exact hQ _ A v f hk hW hr (fun hf c hc => hs hf c (by omega)) (by simp [t0, ptrV]) (by simp [tf])
  | succ k ih =>
    intro i T A v f hi hk hW hr hs t0 tf tc
    have hil : i < P.l.length := by omega
    have hX := hW.hx
    have hkn := hk.1
    rw [W_loop]
    simp (disch := as_aux_lemma => first | omega | simp only [hDs] <;> omega | simp [isCell]) [hRs, takeMarks, resA, resAll, resOne, Value.cells, body53c, t0, tc, ptrV, hX, wkCells, rowS2, show (i : Int) < (P.l.length : Int) by omega]
    refine w73 (w := P.w) (h := P.h) (s := P.s) (sl := P.sl) (c := i) hw hh (by omega) (by omega) fun A1 sv k1 hacc => ?_
    rw [refNb_nat hP hil] at hacc
    simp (disch := as_aux_lemma => first | omega | simp only [hDs] <;> omega | simp [isCell]) [hRs, takeMarks, resA, resAll, resOne, Value.cells]
    refine loop53k (A0 := A1) (c := i) (N := A.n) (v0 := v0) (sv := sv) hP hR hcall hil (fun j hj => Hp.lt_of_get (hW.hv j hj)) k1.1 (f0 := f) (fun T' A2 v2 f2 k2 hW2 hr2 hm2 hs2 p0 pf pc => ?_) (refN P i).length 0 _ A1 v f (by omega) (Keep.refl _ _) hacc (hW.ext k1) hr id (fun _ j _ hj => by omega) ?_ ?_ ?_ ?_ ?_
    · simp (disch := as_aux_lemma => first | omega | simp only [hDs] <;> omega | simp [isCell]) [hRs, takeMarks, resA, resAll, resOne, Value.cells, pc]
      refine ih (i + 1) _ A2 v2 f2 (by omega) ((hk.trans (k1.keep _)).trans k2) hW2 hr2 ?_ ?_ ?_ ?_
      · intro hf c hc
        by_cases e : c = i
        · rw [e]; exact hs2 hf
        · exact hs (hm2 hf) c (by omega)
      · simp [p0]
      · simp [pf]
      · simp [wrId (n := (i : Int) + 1) (by omega) (by omega)]
    all_goals simp [t0, tf, tc, ptrV]
end
end Go.Ab.Wave
namespace Go.Ab.Wave
open Go Go.Ab
section
variable {g : Nat} {P : Par} {X rd : Nat} {r : Nat → Nat} {R : Rd} {D : List Nat} {rdd : Option Nat} {Q : Ex → St → Prop}
theorem loop52o (hP : POk P) (hR : RdOk R P) (hcall : ∀ (A : Hp) (v : Nat → List Int) (a b : Nat) (V : Value → Hp → Prop), Work A P X rd r v → R.I v → a < P.l.length → b ∈ nbP P a → (∀ A', Keep (WK r) A A' → Work A' P X rd r (R.step a b v) → V (.bool (R.fl a b v)) A') → WF AP KL g 74 [ptrV X, .int .i64 a, .int .i64 b] A V)
    {A0 : Hp} (hg : g ≤ A0.n)
    (hQ : ∀ T' A' v, Keep (WK r) A0 A' → Work A' P X rd r v → R.I v → (∀ c, c < P.l.length → Shut R P v c) → Q (.exit 2) ⟨T', D, A'⟩) :
    ∀ (m : Nat) (T : List Value) (A : Hp) (v : Nat → List Int) (f : Bool), Keep (WK r) A0 A → Work A P X rd r v → R.I v → (f = true → R.pot v < m) → (f = false → ∀ c, c < P.l.length → Shut R P v c) →
      tget T 0 = ptrV X → tget T 6 = .bool f → W AP KL g rdd (.loop body52o) ⟨T, D, A⟩ Q := by
  intro m
  induction m with
  | zero =>
    intro T A v f hk hW hI hp hs t0 tf
    have e : f = false := by cases f; rfl; exact absurd (hp rfl) (by omega)
    subst e
    rw [W_loop]
    simp (disch := as_aux_lemma => first | omega | simp only [hDs] <;> omega | simp [isCell]) [hRs, takeMarks, resA, resAll, resOne, Value.cells, body52o, tf]
    exact hQ _ A v hk hW hI (hs rfl)
  | succ m ih =>
    intro T A v f hk hW hI hp hs t0 tf
    cases f
    · rw [W_loop]
      simp (disch := as_aux_lemma => first | omega | simp only [hDs] <;> omega | simp [isCell]) [hRs, takeMarks, resA, resAll, resOne, Value.cells, body52o, tf]
      exact hQ _ A v hk hW hI (hs rfl)
    · have hkn := hk.1
      rw [W_loop]
      simp (disch := as_aux_lemma => first | omega | simp only [hDs] <;> omega | simp [isCell]) [hRs, takeMarks, resA, resAll, resOne, Value.cells, body52o, tf, t0]
      refine loop52c (A0 := A) (v0 := v) hP hR hcall (by omega) (fun T' A' v' f' k' hW' hr' hs' p0 pf => ?_) P.l.length 0 _ A v false (by omega) (Keep.refl _ _) hW ⟨hI, fun _ => rfl, fun e => absurd e (by decide)⟩ (fun _ c hc => by omega) ?_ ?_ ?_
      · simp (disch := as_aux_lemma => first | omega | simp only [hDs] <;> omega | simp [isCell]) [hRs, takeMarks, resA, resAll, resOne, Value.cells]
        refine ih _ A' v' f' (hk.trans k') hW' hr'.i (fun e => ?_) (fun e c hc => ?_) p0 pf
        · have := hr'.d e
          have := hp rfl
          omega
        · rw [hr'.q e]; exact hs' e c hc
      all_goals simp [t0]
end
section
variable {g : Nat} {P : Par} {X rd : Nat} {r : Nat → Nat} {R : Rd} {D : List Nat} {rdd : Option Nat} {Q : Ex → St → Prop}
theorem loop53o (hP : POk P) (hR : RdOk R P) (hcall : ∀ (A : Hp) (v : Nat → List Int) (a b : Nat) (V : Value → Hp → Prop), Work A P X rd r v → R.I v → a < P.l.length → b ∈ nbP P a → (∀ A', Keep (WK r) A A' → Work A' P X rd r (R.step a b v) → V (.bool (R.fl a b v)) A') → WF AP KL g 77 [ptrV X, .int .i64 a, .int .i64 b] A V)
    {A0 : Hp} (hg : g ≤ A0.n)
    (hQ : ∀ T' A' v, Keep (WK r) A0 A' → Work A' P X rd r v → R.I v → (∀ c, c < P.l.length → Shut R P v c) → Q (.exit 2) ⟨T', D, A'⟩) :
    ∀ (m : Nat) (T : List Value) (A : Hp) (v : Nat → List Int) (f : Bool), Keep (WK r) A0 A → Work A P X rd r v → R.I v → (f = true → R.pot v < m) → (f = false → ∀ c, c < P.l.length → Shut R P v c) →
      tget T 0 = ptrV X → tget T 3 = .bool f → W AP KL g rdd (.loop body53o) ⟨T, D, A⟩ Q := by
  intro m
  induction m with
  | zero =>
    intro T A v f hk hW hI hp hs t0 tf
    have e : f = false := by cases f; rfl; exact absurd (hp rfl) (by omega)
    subst e
    rw [W_loop]
    simp (disch := as_aux_lemma => first | omega | simp only [hDs] <;> omega | simp [isCell]) [hRs, takeMarks, resA, resAll, resOne, Value.cells, body53o, tf]
    exact hQ _ A v hk hW hI (hs rfl)
  | succ m ih =>
    intro T A v f hk hW hI hp hs t0 tf
    cases f
    · rw [W_loop]
      simp (disch := as_aux_lemma => first | omega | simp only [hDs] <;> omega | simp [isCell]) [hRs, takeMarks, resA, resAll, resOne, Value.cells, body53o, tf]
      exact hQ _ A v hk hW hI (hs rfl)
    · have hkn := hk.1
      rw [W_loop]
      simp (disch := as_aux_lemma => first | omega | simp only [hDs] <;> omega | simp [isCell]) [hRs, takeMarks, resA, resAll, resOne, Value.cells, body53o, tf, t0]
      refine loop53c (A0 := A) (v0 := v) hP hR hcall (by omega) (fun T' A' v' f' k' hW' hr' hs' p0 pf => ?_) P.l.length 0 _ A v false (by omega) (Keep.refl _ _) hW ⟨hI, fun _ => rfl, fun e => absurd e (by decide)⟩ (fun _ c hc => by omega) ?_ ?_ ?_
      · simp (disch := as_aux_lemma => first | omega | simp only [hDs] <;> omega | simp [isCell]) [hRs, takeMarks, resA, resAll, resOne, Value.cells]
        refine ih _ A' v' f' (hk.trans k') hW' hr'.i (fun e => ?_) (fun e c hc => ?_) p0 pf
        · have := hr'.d e
          have := hp rfl
          omega
        · rw [hr'.q e]; exact hs' e c hc
      all_goals simp [t0]
end
structure EndI (P : Par) (zs : List Int) (n : Nat) (va vs : List Int) : Prop where
  na : va.length = P.l.length
  ns : vs.length = P.l.length
  a : ∀ c, c < P.l.length → 0 ≤ gi va c ∧ gi va c ≤ Never
  s : ∀ c, c < P.l.length → 0 ≤ gi vs c ∧ gi vs c ≤ 200000000
  da : ∀ c, c < P.l.length → (PA P).Der (arr0 P zs n) c (gi va c)
  ds : ∀ c, c < P.l.length → (PS P).Der (str0 P zs n) c (gi vs c)
  ga : GA 1000000000 32000000 va
  pos : ∀ c, c < P.l.length → 0 < gi vs c → gi va c < Never
  ia : ∀ c, c < P.l.length → gi va c ≤ gi (arr0 P zs n) c
  is : ∀ c, c < P.l.length → gi (str0 P zs n) c ≤ gi vs c
def rankS (v : Int) : Nat := (200000000 - v).toNat
def potE (va vs : List Int) : Nat := (va.map (rankA 2300000000)).sum + (vs.map rankS).sum
theorem set_self {l : List Int} {i : Nat} {v : Int} (hi : i < l.length) (h : v = gi l i) : l.set i v = l := by
  refine gi_ext (n := l.length) (by simp) rfl fun j hj => ?_
  rw [gi_set hi]
  split
  · rename_i e; rw [h, e]
  · rfl
theorem EndI.pass {P : Par} {zs : List Int} {n : Nat} {va vs : List Int} (hP : POk P) (h : EndI P zs n va vs) {a b : Nat} (ha : a < P.l.length) (hb : b ∈ nbP P a) :
    EndI P zs n (passA P va vs a b).1 (passA P va vs a b).2 ∧ potE (passA P va vs a b).1 (passA P va vs a b).2 ≤ potE va vs ∧
    (gi (passA P va vs a b).1 b = gi va b → gi (passA P va vs a b).2 b = gi vs b → passA P va vs a b = (va, vs)) ∧
    (¬ (gi (passA P va vs a b).1 b = gi va b ∧ gi (passA P va vs a b).2 b = gi vs b) → potE (passA P va vs a b).1 (passA P va vs a b).2 < potE va vs) := by
  have hbn := nb_lt hP hb
  have hsm := hP.small
  by_cases hc : P.open a b = true ∧ gi va a < Never
  · have hcr := hP.cross (open_dep hc.1).1 (open_dep hc.1).2
    have oa := h.a a ha
    have ob := h.a b hbn
    have sa := h.s a ha
    have sb := h.s b hbn
    have hsp := spS_le hP (a := a) (b := b) sa.1
    obtain ⟨u, hu⟩ : ∃ u, u = gi va a + P.cross a b := ⟨_, rfl⟩
    obtain ⟨w, hw⟩ : ∃ w, w = (P.spS a b (gi vs a)).1 := ⟨_, rfl⟩
    have hw' : dv P.up (gi vs a * ofE P.up P.k0 P.k1) 1024 = w := hw.symm
    rw [← hw] at hsp
    have hp : passA P va vs a b = (va.set b (min (gi va b) u), vs.set b (max (gi vs b) w)) := by unfold passA; rw [if_pos hc, hw', hu]
    rw [hp]
    dsimp only
    have ba : b < va.length := by rw [h.na]; exact hbn
    have bs : b < vs.length := by rw [h.ns]; exact hbn
    have hga := h.ga a (by rw [h.na]; exact ha) hc.2
    have hfl := fin_le va
    have hfm : (fin va : Int) * 32000000 ≤ 40 * 32000000 := Int.mul_le_mul_of_nonneg_right (by rw [h.na] at hfl; omega) (by omega)
    have hun : u < Never := by unfold Never; omega
    have hA : (∀ c, c < P.l.length → (0 ≤ gi (va.set b (min (gi va b) u)) c ∧ gi (va.set b (min (gi va b) u)) c ≤ Never) ∧ (PA P).Der (arr0 P zs n) c (gi (va.set b (min (gi va b) u)) c) ∧ gi (va.set b (min (gi va b) u)) c ≤ gi va c) ∧ GA 1000000000 32000000 (va.set b (min (gi va b) u)) ∧
        ((va.set b (min (gi va b) u)).map (rankA 2300000000)).sum ≤ (va.map (rankA 2300000000)).sum ∧ (u < gi va b → ((va.set b (min (gi va b) u)).map (rankA 2300000000)).sum < (va.map (rankA 2300000000)).sum) := by
      by_cases hlt : u < gi va b
      · rw [show min (gi va b) u = u by omega]
        obtain ⟨g1, g2⟩ := GA_step (a := a) (b := b) (u := u) (RB := 2300000000) (by omega) h.ga (by rw [h.na]; exact ha) ba hc.2 (by omega) (by omega) hlt ob.2 (by rw [h.na]; omega)
        have hsum := sum_set (f := rankA 2300000000) (l := va) (i := b) (v := u) ba g2
        refine ⟨fun c hc' => ?_, g1, Nat.le_of_lt hsum, fun _ => hsum⟩
        rw [gi_set ba]
        by_cases e : c = b
        · subst e
          rw [if_pos rfl]
          refine ⟨by omega, ?_, by omega⟩
          have e2 : P.spA a c (gi va a) = (u, true) := by unfold Par.spA; rw [if_pos ⟨hc.1, by omega⟩, hu]
          have hst := Stl.Der.step (S := PA P) (vs0 := arr0 P zs n) (a := a) (b := c) (v := gi va a) ha (h.da a ha) hb (by show (P.spA a c (gi va a)).2 = true; rw [e2])
          have e3 : ((PA P).sp a c (gi va a)).1 = u := by show (P.spA a c (gi va a)).1 = u; rw [e2]
          rw [e3] at hst
          exact hst
        · rw [if_neg e]; exact ⟨h.a c hc', h.da c hc', Int.le_refl _⟩
      · rw [show min (gi va b) u = gi va b by omega, set_self ba rfl]
        exact ⟨fun c hc' => ⟨h.a c hc', h.da c hc', Int.le_refl _⟩, h.ga, Nat.le_refl _, fun e => absurd e hlt⟩
    have hS : (∀ c, c < P.l.length → (0 ≤ gi (vs.set b (max (gi vs b) w)) c ∧ gi (vs.set b (max (gi vs b) w)) c ≤ 200000000) ∧ (PS P).Der (str0 P zs n) c (gi (vs.set b (max (gi vs b) w)) c) ∧ gi vs c ≤ gi (vs.set b (max (gi vs b) w)) c) ∧
        ((vs.set b (max (gi vs b) w)).map rankS).sum ≤ (vs.map rankS).sum ∧ (gi vs b < w → ((vs.set b (max (gi vs b) w)).map rankS).sum < (vs.map rankS).sum) := by
      by_cases hlt : gi vs b < w
      · rw [show max (gi vs b) w = w by omega]
        have hsum := sum_set (f := rankS) (l := vs) (i := b) (v := w) bs (by unfold rankS; omega)
        refine ⟨fun c hc' => ?_, Nat.le_of_lt hsum, fun _ => hsum⟩
        rw [gi_set bs]
        by_cases e : c = b
        · subst e
          rw [if_pos rfl]
          refine ⟨by omega, ?_, by omega⟩
          have hst := Stl.Der.step (S := PS P) (vs0 := str0 P zs n) (a := a) (b := c) (v := gi vs a) ha (h.ds a ha) hb (by
            show (P.spS a c (gi vs a)).2 = true
            unfold Par.spS
            simp only [Bool.and_eq_true, decide_eq_true_eq]
            exact ⟨hc.1, by omega⟩)
          have e3 : ((PS P).sp a c (gi vs a)).1 = w := hw.symm
          rw [e3] at hst
          exact hst
        · rw [if_neg e]; exact ⟨h.s c hc', h.ds c hc', Int.le_refl _⟩
      · rw [show max (gi vs b) w = gi vs b by omega, set_self bs rfl]
        exact ⟨fun c hc' => ⟨h.s c hc', h.ds c hc', Int.le_refl _⟩, Nat.le_refl _, fun e => absurd e hlt⟩
    obtain ⟨hA1, hA2, hA3, hA4⟩ := hA
    obtain ⟨hS1, hS2, hS3⟩ := hS
    refine ⟨⟨by simp [h.na], by simp [h.ns], fun c hc' => (hA1 c hc').1, fun c hc' => (hS1 c hc').1, fun c hc' => (hA1 c hc').2.1, fun c hc' => (hS1 c hc').2.1, hA2, fun c hc' hpos => ?_, fun c hc' => Int.le_trans (hA1 c hc').2.2 (h.ia c hc'), fun c hc' => Int.le_trans (h.is c hc') (hS1 c hc').2.2⟩, ?_, fun e1 e2 => ?_, fun hne => ?_⟩
    · have hle := (hA1 c hc').2.2
      rw [gi_set bs] at hpos
      by_cases e : c = b
      · subst e
        rw [gi_set ba, if_pos rfl]; omega
      · rw [if_neg e] at hpos
        have := h.pos c hc' hpos
        omega
    · unfold potE; exact Nat.add_le_add hA3 hS2
    · rw [gi_set ba, if_pos rfl] at e1
      rw [gi_set bs, if_pos rfl] at e2
      rw [set_self ba e1, set_self bs e2]
    · rw [gi_set ba, if_pos rfl, gi_set bs, if_pos rfl] at hne
      unfold potE
      by_cases c1 : u < gi va b
      · have := hA4 c1; omega
      · by_cases c2 : gi vs b < w
        · have := hS3 c2; omega
        · exact absurd ⟨by omega, by omega⟩ hne
  · have hp : passA P va vs a b = (va, vs) := by unfold passA; rw [if_neg hc]
    rw [hp]
    exact ⟨h, Nat.le_refl _, fun _ _ => rfl, fun hne => absurd ⟨rfl, rfl⟩ hne⟩
theorem EndI.fin {P : Par} {zs : List Int} {n : Nat} {va vs : List Int} (hP : POk P) (hz : StartOk P zs n) (h : EndI P zs n va vs) (hq : ∀ a b, a < P.l.length → b ∈ nbP P a → passA P va vs a b = (va, vs)) :
    va = arrF P zs n ∧ vs = strF P zs n := by
  have a0 := arr0_ok hz n (Nat.le_refl _)
  have s0 := str0_ok hP hz n (Nat.le_refl _)
  have key : ∀ a b, a < P.l.length → b ∈ nbP P a → P.open a b = true → gi va a < Never → gi va b ≤ gi va a + P.cross a b ∧ (P.spS a b (gi vs a)).1 ≤ gi vs b := by
    intro a b ha hb ho hn
    have hbn := nb_lt hP hb
    have e := hq a b ha hb
    unfold passA at e
    rw [if_pos ⟨ho, hn⟩] at e
    have e1 : gi (va.set b (min (gi va b) (gi va a + P.cross a b))) b = gi va b := by rw [(Prod.mk.inj e).1]
    have e2 : gi (vs.set b (max (gi vs b) (dv P.up (gi vs a * ofE P.up P.k0 P.k1) 1024))) b = gi vs b := by rw [(Prod.mk.inj e).2]
    rw [gi_set (by rw [h.na]; exact hbn), if_pos rfl] at e1
    rw [gi_set (by rw [h.ns]; exact hbn), if_pos rfl] at e2
    refine ⟨by omega, ?_⟩
    show dv P.up (gi vs a * ofE P.up P.k0 P.k1) 1024 ≤ _
    omega
  have hFA : (PA P).FinV (arr0 P zs n) va := by
    refine ⟨⟨h.na, a0.1, h.a, h.da, fun b hb => .inl rfl, fun c hc => absurd hc List.not_mem_nil, h.ga, fun b hb => h.ia b hb, fun _ => Int.le_refl _⟩, fun c d hc hd hs => ⟨?_, fun e => by cases e⟩⟩
    obtain ⟨h1, h2, h3⟩ := spA_true (show (P.spA c d (gi va c)).2 = true from hs)
    have hcn := h.a c hc
    have := (key c d hc hd h1 (by omega)).1
    show ¬ (P.spA c d (gi va c)).1 < gi va d
    rw [h3]; omega
  have hFS : (PS P).FinV (str0 P zs n) vs := by
    refine ⟨⟨h.ns, s0.1, h.s, h.ds, fun b hb => .inl rfl, fun c hc => absurd hc List.not_mem_nil, trivial, fun b hb => ?_, fun _ => Int.le_refl _⟩, fun c d hc hd hs => ⟨?_, fun e => by cases e⟩⟩
    · show -(gi vs b) ≤ -(gi (str0 P zs n) b)
      have := h.is b hb
      omega
    · have hs' : (P.spS c d (gi vs c)).2 = true := hs
      unfold Par.spS at hs'
      simp only [Bool.and_eq_true, decide_eq_true_eq] at hs'
      have := (key c d hc hd hs'.1 (h.pos c hc hs'.2)).2
      show ¬ -(P.spS c d (gi vs c)).1 < -(gi vs d)
      omega
  exact ⟨(hFA.out (PA_mon hP)).1, (hFS.out (PS_mon hP)).1⟩
end Go.Ab.Wave
namespace Go.Ab.Wave
open Go Go.Ab
def p52a : ACode := (.seq
 (.ops [
oM 21 0,
oM 22 5,
oA 23 69 [.t 21, .t 22] false])
 (.cond (.t 23)
 (.seq
 (.ops [
oM 24 0,
oP 25 (.nilCheck (.t 24)),
oF 26 25 13,
oL 27 26,
oM 28 5,
oM 29 0,
oP 30 (.nilCheck (.t 29)),
oF 31 30 13,
oL 32 31,
oM 33 5,
oI 34 32 33 1,
oL 35 34,
oM 36 1,
oM 37 4,
oI 38 36 37 5,
oF 39 38 1,
oF 40 39 0,
oL 41 40,
oP 42 (.min [.t 35, .t 41]),
oI 43 27 28 1,
oT 43 42 1])
 (.ops [
oM 44 0,
oP 45 (.nilCheck (.t 44)),
oF 46 45 16,
oL 47 46,
oM 48 5,
oM 49 0,
oP 50 (.nilCheck (.t 49)),
oF 51 50 16,
oL 52 51,
oM 53 5,
oI 54 52 53 1,
oL 55 54,
oM 56 1,
oM 57 4,
oI 58 56 57 5,
oF 59 58 3,
oF 60 59 1,
oL 61 60,
oM 62 0,
oP 63 (.nilCheck (.t 62)),
oF 64 63 12,
oL 65 64,
oM 66 5,
oI 67 65 66 2,
oF 68 67 1,
oL 69 68,
oA 70 70 [.t 69] true,
oB 71 .mul 61 70,
oP 72 (.max [.t 55, .t 71]),
oI 73 47 48 1,
oT 73 72 1]))
 .skip))
def p52b : ACode := (.seq
 (.ops [
oM 74 0,
oM 75 5,
oA 76 71 [.t 74, .t 75] false])
 (.cond (.t 76)
 (.seq
 (.ops [
oM 77 0,
oP 78 (.nilCheck (.t 77)),
oF 79 78 14,
oL 80 79,
oM 81 5,
oM 82 0,
oP 83 (.nilCheck (.t 82)),
oF 84 83 14,
oL 85 84,
oM 86 5,
oI 87 85 86 1,
oL 88 87,
oM 89 1,
oM 90 4,
oI 91 89 90 5,
oF 92 91 1,
oF 93 92 1,
oL 94 93,
oP 95 (.min [.t 88, .t 94]),
oI 96 80 81 1,
oT 96 95 1])
 (.ops [
oM 97 0,
oP 98 (.nilCheck (.t 97)),
oF 99 98 15,
oL 100 99,
oM 101 5,
oM 102 0,
oP 103 (.nilCheck (.t 102)),
oF 104 103 15,
oL 105 104,
oM 106 5,
oI 107 105 106 1,
oL 108 107,
oM 109 1,
oM 110 4,
oI 111 109 110 5,
oF 112 111 3,
oF 113 112 0,
oL 114 113,
oM 115 0,
oP 116 (.nilCheck (.t 115)),
oF 117 116 12,
oL 118 117,
oM 119 5,
oI 120 118 119 2,
oF 121 120 0,
oL 122 121,
oA 123 72 [.t 122] true,
oB 124 .mul 114 123,
oP 125 (.max [.t 108, .t 124]),
oI 126 100 101 1,
oT 126 125 1]))
 .skip))
def body52s : ACode := .seq (.seq
 (.ops [
oM 10 4,
oM 11 1,
oP 12 (.len (.t 11)),
oB 13 .lss 10 12])
 (.cond (.t 13)
 .skip
 (.exit 0))) (.seq (.block 1 (.seq (.ops [
oM 16 1,
oM 17 4,
oI 18 16 17 5,
oF 19 18 0,
oL 20 19,
oM 5 20]) (.seq p52a p52b))) (.ops [
oM 14 4,
oC 15 .add 14 1,
oM 4 15]))
def stU (P : Par) (zs : List Int) (i : Nat) (v : Nat → List Int) : Nat → List Int := upd (upd v 0 (stA (P.at true) zs (v 0) i)) 3 (stS (P.at true) zs (v 3) i)
def stD (P : Par) (zs : List Int) (i : Nat) (v : Nat → List Int) : Nat → List Int := upd (upd v 1 (stA (P.at false) zs (v 1) i)) 2 (stS (P.at false) zs (v 2) i)
structure S52 (P : Par) (X rd : Nat) (r : Nat → Nat) (y i c : Nat) (ro : Bool) (sls : Value) (zs : List Int) (A0 : Hp) (v : Nat → List Int) (T : List Value) (A : Hp) : Prop where
  w : Work A P X rd r v
  gy : A.get y = some (.cells (ints zs) ro)
  ne : ∀ j, j < 9 → y ≠ r j
  k : Keep (WK r) A0 A
  t0 : tget T 0 = ptrV X
  t1 : tget T 1 = sls
  t4 : tget T 4 = .int .i64 i
  t5 : tget T 5 = .int .i64 c
section
variable {g : Nat} {A : Hp} {V : Value → Hp → Prop} {P : Par} {X rd : Nat} {r : Nat → Nat} {v : Nat → List Int} {y i c n : Nat} {ro : Bool} {sls : Value} {zs : List Int} {A0 : Hp} {T : List Value} {D : List Nat} {rdd : Option Nat}
theorem S52.put {T' : List Value} (h : S52 P X rd r y i c ro sls zs A0 v T A) {j : Nat} (hj : j < 9) {l : List Int} (hl : l.length = P.l.length) (hT : ∀ j, j < 6 → tget T' j = tget T j) : S52 P X rd r y i c ro sls zs A0 (upd v j l) T' (A.set (r j) (some (.cells (ints l) false))) :=
  ⟨h.w.put hj hl, by rw [get_set_ne (Hp.lt_of_get (h.w.hv j hj)) (h.ne j hj)]; exact h.gy, h.ne, Keep.put' h.k (Hp.lt_of_get (h.w.hv j hj)) ⟨j, hj, rfl⟩, (hT 0 (by omega)).trans h.t0, (hT 1 (by omega)).trans h.t1, (hT 4 (by omega)).trans h.t4, (hT 5 (by omega)).trans h.t5⟩
theorem S52.same {T' : List Value} (h : S52 P X rd r y i c ro sls zs A0 v T A) (hT : ∀ j, j < 6 → tget T' j = tget T j) : S52 P X rd r y i c ro sls zs A0 v T' A :=
  ⟨h.w, h.gy, h.ne, h.k, (hT 0 (by omega)).trans h.t0, (hT 1 (by omega)).trans h.t1, (hT 4 (by omega)).trans h.t4, (hT 5 (by omega)).trans h.t5⟩
theorem r52a (hP : POk (P.at true)) (hz : StartOk (P.at true) zs n) {cp : Nat} (hsl : sls = .slice (some ⟨y, 0, some 5⟩) n cp) (hi : i < n) (hcc : stC zs i = c) (hc : c < P.l.length) (hg : ∀ i, i < 9 → g ≤ r i) (h : S52 P X rd r y i c ro sls zs A0 v T A) :
    W AP KL g rdd p52a ⟨T, D, A⟩ (fun ex st => ex = .normal ∧ st.D = D ∧ S52 P X rd r y i c ro sls zs A0 (stU P zs i v) st.T st.A) := by
  have t0 := h.t0
  have t1 := h.t1.trans hsl
  have t4 := h.t4
  have t5 := h.t5
  have hy := h.gy
  have hW := h.w
  have hX := hW.hx
  have hd := hW.hd
  have va := hW.hv 0 (by omega)
  have vs := hW.hv 3 (by omega)
  have na : (v 0).length = P.l.length := hW.nv 0 (by omega)
  have ns : (v 3).length = P.l.length := hW.nv 3 (by omega)
  have hzl := hz.len
  have ht := hz.time i hi
  have hri := hz.rise i hi
  have sx : ∀ z, (A.set (r 0) z).get X = A.get X := fun z => get_set_ne (Hp.lt_of_get va) (fun e => (hW.nd 0 (by omega)).2 e.symm)
  have sv : ∀ z, (A.set (r 0) z).get (r 3) = A.get (r 3) := fun z => get_set_ne (Hp.lt_of_get va) (hW.ne 3 0 (by omega) (by omega) (by omega))
  have sy : ∀ z, (A.set (r 0) z).get y = A.get y := fun z => get_set_ne (Hp.lt_of_get va) (h.ne 0 (by omega))
  have sd : ∀ z, (A.set (r 0) z).get rd = A.get rd := fun z => get_set_ne (Hp.lt_of_get va) (fun e => (hW.nd 0 (by omega)).1 e.symm)
  obtain ⟨hl, e0, e1⟩ := Work.dep hc
  simp (disch := as_aux_lemma => first | omega | simp only [hDs] <;> omega | simp [isCell]) [hRs, takeMarks, resA, resAll, resOne, Value.cells, p52a, t0, t5]
  refine w69 hW hc ?_
  by_cases hd1 : 1 ≤ (P.at true).dep c
  · have hdp := hP.dep (c := c) hc
    have hfb := (fourth_bounds (b := true) hd1 hdp.2).2
    have hri : 0 ≤ gi zs (i * 5 + 4) ∧ gi zs (i * 5 + 4) ≤ 5000 := by omega
    have hm : 0 ≤ gi zs (i * 5 + 4) * fourthE true ((P.at true).dep c) ∧ gi zs (i * 5 + 4) * fourthE true ((P.at true).dep c) ≤ 5000 * 34040 := ⟨Int.mul_nonneg (by omega) (by omega), Int.mul_le_mul hri.2 hfb.2 (by omega) (by omega)⟩
    have eA : stA (P.at true) zs (v 0) i = (v 0).set c (min (gi (v 0) c) (gi zs (i * 5 + 1))) := by unfold stA; rw [hcc, if_pos hd1]; rfl
    have eS : stS (P.at true) zs (v 3) i = (v 3).set c (max (gi (v 3) c) (gi zs (i * 5 + 4) * fourthE true ((P.at true).dep c))) := by unfold stS; rw [hcc, if_pos hd1]; rfl
    have hst := h.put (T' := T) (j := 0) (by omega) (l := stA (P.at true) zs (v 0) i) (by rw [eA, List.length_set]; exact na) (fun _ _ => rfl)
    have hf := hst.put (T' := T) (j := 3) (by omega) (l := stS (P.at true) zs (v 3) i) (by rw [eS, List.length_set]; exact ns) (fun _ _ => rfl)
    rw [eA, eS] at hf
    simp (disch := as_aux_lemma => first | omega | simp only [hDs] <;> omega | simp [isCell]) [hRs, takeMarks, resA, resAll, resOne, Value.cells, hd1, t0, t1, t4, t5, ptrV, hX, wkCells, rowS2, rowS1, idxSA_ok, show (c : Int) < P.l.length by omega, show (i : Int) < (n : Int) by omega, hy, ints_get, va, storeB_int (show c < (v 0).length by omega) (hg 0 (by omega)), sx, sv, sy, sd, vs, hd, e1]
    refine wRt (b := true) hd1 hdp.2 ?_
    simp (disch := as_aux_lemma => first | omega | simp only [hDs] <;> omega | simp [isCell]) [hRs, takeMarks, resA, resAll, resOne, Value.cells, wrId (n := gi zs (i * 5 + 4) * fourthE true ((P.at true).dep c)) (by omega) (by omega), idxSA_ok, show (c : Int) < P.l.length by omega, sv, vs, storeB_int (show c < (v 3).length by omega) (hg 3 (by omega))]
    unfold stU
    rw [eA, eS]
    refine hf.same fun j hj => ?_
    simp only [tget_tset]
    repeat (rw [if_neg (by omega)])
  · simp (disch := as_aux_lemma => first | omega | simp only [hDs] <;> omega | simp [isCell]) [hRs, takeMarks, resA, resAll, resOne, Value.cells, hd1]
    have e : stU P zs i v = v := by
      unfold stU stA stS
      rw [hcc, if_neg hd1, if_neg hd1]
      simp only [upd_same]
    rw [e]
    refine h.same fun j hj => ?_
    simp only [tget_tset]
    repeat (rw [if_neg (by omega)])
theorem r52b (hP : POk (P.at false)) (hz : StartOk (P.at false) zs n) {cp : Nat} (hsl : sls = .slice (some ⟨y, 0, some 5⟩) n cp) (hi : i < n) (hcc : stC zs i = c) (hc : c < P.l.length) (hg : ∀ i, i < 9 → g ≤ r i) (h : S52 P X rd r y i c ro sls zs A0 v T A) :
    W AP KL g rdd p52b ⟨T, D, A⟩ (fun ex st => ex = .normal ∧ st.D = D ∧ S52 P X rd r y i c ro sls zs A0 (stD P zs i v) st.T st.A) := by
  have t0 := h.t0
  have t1 := h.t1.trans hsl
  have t4 := h.t4
  have t5 := h.t5
  have hy := h.gy
  have hW := h.w
  have hX := hW.hx
  have hd := hW.hd
  have va := hW.hv 1 (by omega)
  have vs := hW.hv 2 (by omega)
  have na : (v 1).length = P.l.length := hW.nv 1 (by omega)
  have ns : (v 2).length = P.l.length := hW.nv 2 (by omega)
  have hzl := hz.len
  have ht := hz.time i hi
  have hri := hz.rise i hi
  have sx : ∀ z, (A.set (r 1) z).get X = A.get X := fun z => get_set_ne (Hp.lt_of_get va) (fun e => (hW.nd 1 (by omega)).2 e.symm)
  have sv : ∀ z, (A.set (r 1) z).get (r 2) = A.get (r 2) := fun z => get_set_ne (Hp.lt_of_get va) (hW.ne 2 1 (by omega) (by omega) (by omega))
  have sy : ∀ z, (A.set (r 1) z).get y = A.get y := fun z => get_set_ne (Hp.lt_of_get va) (h.ne 1 (by omega))
  have sd : ∀ z, (A.set (r 1) z).get rd = A.get rd := fun z => get_set_ne (Hp.lt_of_get va) (fun e => (hW.nd 1 (by omega)).1 e.symm)
  obtain ⟨hl, e0, e1⟩ := Work.dep hc
  simp (disch := as_aux_lemma => first | omega | simp only [hDs] <;> omega | simp [isCell]) [hRs, takeMarks, resA, resAll, resOne, Value.cells, p52b, t0, t5]
  refine w71 hW hc ?_
  by_cases hd1 : 1 ≤ (P.at false).dep c
  · have hdp := hP.dep (c := c) hc
    have hfb := (fourth_bounds (b := false) hd1 hdp.2).2
    have hri : 0 ≤ gi zs (i * 5 + 3) ∧ gi zs (i * 5 + 3) ≤ 5000 := by omega
    have hm : 0 ≤ gi zs (i * 5 + 3) * fourthE false ((P.at false).dep c) ∧ gi zs (i * 5 + 3) * fourthE false ((P.at false).dep c) ≤ 5000 * 34040 := ⟨Int.mul_nonneg (by omega) (by omega), Int.mul_le_mul hri.2 hfb.2 (by omega) (by omega)⟩
    have eA : stA (P.at false) zs (v 1) i = (v 1).set c (min (gi (v 1) c) (gi zs (i * 5 + 2))) := by unfold stA; rw [hcc, if_pos hd1]; rfl
    have eS : stS (P.at false) zs (v 2) i = (v 2).set c (max (gi (v 2) c) (gi zs (i * 5 + 3) * fourthE false ((P.at false).dep c))) := by unfold stS; rw [hcc, if_pos hd1]; rfl
    have hst := h.put (T' := T) (j := 1) (by omega) (l := stA (P.at false) zs (v 1) i) (by rw [eA, List.length_set]; exact na) (fun _ _ => rfl)
    have hf := hst.put (T' := T) (j := 2) (by omega) (l := stS (P.at false) zs (v 2) i) (by rw [eS, List.length_set]; exact ns) (fun _ _ => rfl)
    rw [eA, eS] at hf
    simp (disch := as_aux_lemma => first | omega | simp only [hDs] <;> omega | simp [isCell]) [hRs, takeMarks, resA, resAll, resOne, Value.cells, hd1, t0, t1, t4, t5, ptrV, hX, wkCells, rowS2, rowS1, idxSA_ok, show (c : Int) < P.l.length by omega, show (i : Int) < (n : Int) by omega, hy, ints_get, va, storeB_int (show c < (v 1).length by omega) (hg 1 (by omega)), sx, sv, sy, sd, vs, hd, e0]
    refine wRt (b := false) hd1 hdp.2 ?_
    simp (disch := as_aux_lemma => first | omega | simp only [hDs] <;> omega | simp [isCell]) [hRs, takeMarks, resA, resAll, resOne, Value.cells, wrId (n := gi zs (i * 5 + 3) * fourthE false ((P.at false).dep c)) (by omega) (by omega), idxSA_ok, show (c : Int) < P.l.length by omega, sv, vs, storeB_int (show c < (v 2).length by omega) (hg 2 (by omega))]
    unfold stD
    rw [eA, eS]
    refine hf.same fun j hj => ?_
    simp only [tget_tset]
    repeat (rw [if_neg (by omega)])
  · simp (disch := as_aux_lemma => first | omega | simp only [hDs] <;> omega | simp [isCell]) [hRs, takeMarks, resA, resAll, resOne, Value.cells, hd1]
    have e : stD P zs i v = v := by
      unfold stD stA stS
      rw [hcc, if_neg hd1, if_neg hd1]
      simp only [upd_same]
    rw [e]
    refine h.same fun j hj => ?_
    simp only [tget_tset]
    repeat (rw [if_neg (by omega)])
end
end Go.Ab.Wave
namespace Go.Ab.Wave
open Go Go.Ab
theorem POk.of_at {P : Par} {b : Bool} (h : POk (P.at b)) : POk P := ⟨h.chk, h.sea, h.keep, h.land, h.loss, h.small⟩
def seed (P : Par) (zs : List Int) (v : Nat → List Int) : Nat → Nat → List Int
  | 0 => v
  | i + 1 => stD P zs i (stU P zs i (seed P zs v i))
structure Fresh (P : Par) (v : Nat → List Int) : Prop where
  f0 : v 0 = List.replicate P.l.length Never
  f1 : v 1 = List.replicate P.l.length Never
  f2 : v 2 = List.replicate P.l.length 0
  f3 : v 3 = List.replicate P.l.length 0
theorem seed_get {P : Par} {zs : List Int} {v : Nat → List Int} (h : Fresh P v) : ∀ i, seed P zs v i 0 = arr0 (P.at true) zs i ∧ seed P zs v i 1 = arr0 (P.at false) zs i ∧ seed P zs v i 2 = str0 (P.at false) zs i ∧ seed P zs v i 3 = str0 (P.at true) zs i ∧ ∀ j, 4 ≤ j → seed P zs v i j = v j
  | 0 => ⟨h.f0, h.f1, h.f2, h.f3, fun _ _ => rfl⟩
  | i + 1 => by
    obtain ⟨h0, h1, h2, h3, h4⟩ := seed_get (zs := zs) h i
    have eA : ∀ b, arr0 (P.at b) zs (i + 1) = stA (P.at b) zs (arr0 (P.at b) zs i) i := fun b => by unfold arr0; rw [List.range_succ, List.foldl_append]; rfl
    have eS : ∀ b, str0 (P.at b) zs (i + 1) = stS (P.at b) zs (str0 (P.at b) zs i) i := fun b => by unfold str0; rw [List.range_succ, List.foldl_append]; rfl
    rw [eA, eA, eS, eS, ← h0, ← h1, ← h2, ← h3]
    refine ⟨rfl, rfl, rfl, rfl, fun j hj => ?_⟩
    rw [← h4 j hj]
    show stD P zs i (stU P zs i (seed P zs v i)) j = _
    unfold stD stU upd
    rw [if_neg (by omega), if_neg (by omega), if_neg (by omega), if_neg (by omega)]
theorem st_pos {P : Par} {zs : List Int} {n : Nat} (hz : StartOk P zs n) : ∀ k, k ≤ n → ∀ c, c < P.l.length → 0 < gi (str0 P zs k) c → gi (arr0 P zs k) c < Never := by
  intro k
  induction k with
  | zero =>
    intro _ c hc h
    have : gi (str0 P zs 0) c = 0 := gi_replicate hc
    omega
  | succ k ih =>
    intro hk c hc h
    have e1 : arr0 P zs (k + 1) = stA P zs (arr0 P zs k) k := by unfold arr0; rw [List.range_succ, List.foldl_append]; rfl
    have e2 : str0 P zs (k + 1) = stS P zs (str0 P zs k) k := by unfold str0; rw [List.range_succ, List.foldl_append]; rfl
    have hl := (arr0_ok hz k (by omega)).1
    have hls : (str0 P zs k).length = P.l.length := by
      clear h ih e1 e2 hl
      induction k with
      | zero => simp [str0]
      | succ k ih2 =>
        have e : str0 P zs (k + 1) = stS P zs (str0 P zs k) k := by unfold str0; rw [List.range_succ, List.foldl_append]; rfl
        rw [e]
        unfold stS
        split
        · rw [List.length_set]; exact ih2 (by omega)
        · exact ih2 (by omega)
    have hcl : stC zs k < P.l.length := by have := hz.cell k (by omega); unfold stC; omega
    have ht := hz.time k (by omega)
    rw [e2] at h
    rw [e1]
    unfold stS at h
    unfold stA agE
    by_cases hd : 1 ≤ P.dep (stC zs k)
    · rw [if_pos hd] at h ⊢
      rw [gi_set (by omega)] at h ⊢
      by_cases e : c = stC zs k
      · rw [if_pos e]; unfold Never; split <;> omega
      · rw [if_neg e] at h ⊢
        exact ih (by omega) c hc h
    · rw [if_neg hd] at h ⊢
      exact ih (by omega) c hc h
theorem EndI.start {P : Par} {zs : List Int} {n : Nat} (hP : POk P) (hz : StartOk P zs n) : EndI P zs n (arr0 P zs n) (str0 P zs n) := by
  have a0 := arr0_ok hz n (Nat.le_refl _)
  have s0 := str0_ok hP hz n (Nat.le_refl _)
  exact ⟨a0.1, s0.1, fun c hc => (a0.2 c hc).1, s0.2, fun c hc => .init hc, fun c hc => .init hc, GA0 hz, st_pos hz n (Nat.le_refl _), fun _ _ => Int.le_refl _, fun _ _ => Int.le_refl _⟩
def RS (P : Par) (zs : List Int) (n : Nat) (v4 : Nat → List Int) : Rd where
  I v := EndI (P.at true) zs n (v 0) (v 3) ∧ EndI (P.at false) zs n (v 1) (v 2) ∧ ∀ j, 4 ≤ j → v j = v4 j
  pot v := potE (v 0) (v 3) + potE (v 1) (v 2)
  step := passR P
  fl a b v := flag4 v (passR P a b v) b
theorem passR_get {P : Par} {a b : Nat} {v : Nat → List Int} : passR P a b v 0 = (passA (P.at true) (v 0) (v 3) a b).1 ∧ passR P a b v 3 = (passA (P.at true) (v 0) (v 3) a b).2 ∧ passR P a b v 1 = (passA (P.at false) (v 1) (v 2) a b).1 ∧ passR P a b v 2 = (passA (P.at false) (v 1) (v 2) a b).2 ∧ ∀ j, 4 ≤ j → passR P a b v j = v j := by
  refine ⟨rfl, rfl, rfl, rfl, fun j hj => ?_⟩
  unfold passR passD passU upd
  rw [if_neg (by omega), if_neg (by omega), if_neg (by omega), if_neg (by omega)]
theorem RS_ok {P : Par} {zs : List Int} {n : Nat} {v4 : Nat → List Int} (hu : POk (P.at true)) (hl : POk (P.at false)) : RdOk (RS P zs n v4) P := by
  refine ⟨fun v a b hI ha hb => ?_, fun v a b hI ha hb hf => ?_, fun v a b hI ha hb hf => ?_⟩
  · obtain ⟨e0, e3, e1, e2, e4⟩ := passR_get (P := P) (a := a) (b := b) (v := v)
    show EndI _ _ _ (passR P a b v 0) (passR P a b v 3) ∧ EndI _ _ _ (passR P a b v 1) (passR P a b v 2) ∧ _
    rw [e0, e3, e1, e2]
    exact ⟨(hI.1.pass hu ha hb).1, (hI.2.1.pass hl ha hb).1, fun j hj => (e4 j hj).trans (hI.2.2 j hj)⟩
  · obtain ⟨e0, e3, e1, e2, e4⟩ := passR_get (P := P) (a := a) (b := b) (v := v)
    have hf' : flag4 v (passR P a b v) b = false := hf
    unfold flag4 at hf'
    simp only [Bool.not_eq_false', Bool.and_eq_true, decide_eq_true_eq] at hf'
    obtain ⟨f0, f1, f2, f3⟩ := hf'
    rw [e0] at f0
    rw [e1] at f1
    rw [e2] at f2
    rw [e3] at f3
    have p := (hI.1.pass hu ha hb).2.2.1 f0.symm f3.symm
    have q := (hI.2.1.pass hl ha hb).2.2.1 f1.symm f2.symm
    show passR P a b v = v
    funext j
    by_cases j0 : j = 0
    · rw [j0, e0, p]
    · by_cases j1 : j = 1
      · rw [j1, e1, q]
      · by_cases j2 : j = 2
        · rw [j2, e2, q]
        · by_cases j3 : j = 3
          · rw [j3, e3, p]
          · exact e4 j (by omega)
  · obtain ⟨e0, e3, e1, e2, e4⟩ := passR_get (P := P) (a := a) (b := b) (v := v)
    have hf' : flag4 v (passR P a b v) b = true := hf
    have p := (hI.1.pass hu ha hb).2
    have q := (hI.2.1.pass hl ha hb).2
    show potE (passR P a b v 0) (passR P a b v 3) + potE (passR P a b v 1) (passR P a b v 2) < potE (v 0) (v 3) + potE (v 1) (v 2)
    rw [e0, e3, e1, e2]
    by_cases c1 : gi (passA (P.at true) (v 0) (v 3) a b).1 b = gi (v 0) b ∧ gi (passA (P.at true) (v 0) (v 3) a b).2 b = gi (v 3) b
    · by_cases c2 : gi (passA (P.at false) (v 1) (v 2) a b).1 b = gi (v 1) b ∧ gi (passA (P.at false) (v 1) (v 2) a b).2 b = gi (v 2) b
      · unfold flag4 at hf'
        rw [e0, e1, e2, e3, c1.1, c1.2, c2.1, c2.2] at hf'
        simp at hf'
      · have := q.2.2 c2
        have := p.1
        omega
    · have := p.2.2 c1
      have := q.1
      omega
section
variable {g : Nat} {A : Hp} {V : Value → Hp → Prop} {P : Par} {X rd : Nat} {r : Nat → Nat} {v : Nat → List Int} {n : Nat} {sls : Value} {zs : List Int}
theorem loop52s {A0 : Hp} {D : List Nat} {rdd : Option Nat} {Q : Ex → St → Prop} (hu : POk (P.at true)) (hl : POk (P.at false)) (hzu : StartOk (P.at true) zs n) (hzl : StartOk (P.at false) zs n) (hn : n < 1000000) (hr : RdS A0 5 n (ints zs) sls) (hne : ∀ x o k m c j, j < 9 → sls = .slice (some ⟨x, o, k⟩) m c → x ≠ r j) (hg : ∀ i, i < 9 → g ≤ r i)
    (hQ : ∀ T' A', Keep (WK r) A0 A' → Work A' P X rd r (seed P zs v n) → tget T' 0 = ptrV X → Q (.exit 0) ⟨T', D, A'⟩) :
    ∀ (k i : Nat) (T : List Value) (A : Hp), i + k = n → Keep (WK r) A0 A → Work A P X rd r (seed P zs v i) → tget T 0 = ptrV X → tget T 1 = sls → tget T 4 = .int .i64 i → W AP KL g rdd (.loop body52s) ⟨T, D, A⟩ Q := by
  have hlen := hr.len
  intro k
  induction k with
  | zero =>
    intro i T A hi hk hW t0 t1 t4
    have e : i = n := by omega
    rw [W_loop]
    simp (disch := as_aux_lemma => first | omega | simp only [hDs] <;> omega | simp [isCell]) [hRs, takeMarks, resA, resAll, resOne, Value.cells, body52s, t1, t4, hlen, show ¬ (i : Int) < (n : Int) by omega]
    rw [e] at hW
    exact hQ _ A hk hW (by simp [t0])
  | succ k ih =>
    intro i T A hi hk hW t0 t1 t4
    obtain ⟨y, cp, ro, hsl, hy0⟩ := hr.at (i := i) (by omega)
    have hy : A.get y = some (.cells (ints zs) ro) := by rw [hk.2 y (Hp.lt_of_get hy0) (by rintro ⟨j, hj, e⟩; exact hne _ _ _ _ _ j hj hsl e)]; exact hy0
    have hzl5 := hzu.len
    have hcell := hzu.cell i (by omega)
    have hc : stC zs i < P.l.length := by have h2 : gi zs (i * 5) < (P.l.length : Int) := hcell.2; unfold stC; omega
    have hcc : gi zs (i * 5) = (stC zs i : Int) := by unfold stC; omega
    rw [W_loop]
    simp (disch := as_aux_lemma => first | omega | simp only [hDs] <;> omega | simp [isCell]) [hRs, takeMarks, resA, resAll, resOne, Value.cells, body52s, t1, t4, hlen, show (i : Int) < (n : Int) by omega, hsl, idxSA_ok, hy, ints_get, hcc]
    refine W_mono (r52a (y := y) (i := i) (c := stC zs i) (n := n) (ro := ro) (cp := cp) (sls := sls) (zs := zs) (A0 := A0) hu hzu hsl (by omega) rfl hc hg ⟨hW, hy, fun j hj => hne _ _ _ _ _ j hj hsl, hk, by simp [t0], by simp [t1, hsl], by simp [t4], by simp⟩) ?_
    rintro _ ⟨T1, D1, A1⟩ ⟨rfl, rfl, h1⟩
    simp (disch := as_aux_lemma => first | omega | simp only [hDs] <;> omega | simp [isCell]) [hRs, takeMarks, resA, resAll, resOne, Value.cells]
    refine W_mono (r52b (n := n) (cp := cp) hl hzl hsl (by omega) rfl hc hg h1) ?_
    rintro _ ⟨T2, D2, A2⟩ ⟨rfl, rfl, h2⟩
    have p4 : tget T2 4 = .int .i64 i := h2.t4
    have p0 : tget T2 0 = ptrV X := h2.t0
    have p1 : tget T2 1 = sls := h2.t1
    simp (disch := as_aux_lemma => first | omega | simp only [hDs] <;> omega | simp [isCell]) [hRs, takeMarks, resA, resAll, resOne, Value.cells, p4]
    refine ih (i + 1) _ A2 (by omega) h2.k h2.w ?_ ?_ ?_
    · simp [p0]
    · simp [p1]
    · simp [wrId (n := (i : Int) + 1) (by omega) (by omega)]
theorem w52 (hu : POk (P.at true)) (hl : POk (P.at false)) (hzu : StartOk (P.at true) zs n) (hzl : StartOk (P.at false) zs n) (hn : n < 1000000) (hr : RdS A 5 n (ints zs) sls) (hne : ∀ x o k m c j, j < 9 → sls = .slice (some ⟨x, o, k⟩) m c → x ≠ r j) (hg : ∀ i, i < 9 → g ≤ r i) (hgA : g ≤ A.n) (hf : Fresh P v) (hW : Work A P X rd r v)
    (hQ : ∀ A' v', Keep (WK r) A A' → Work A' P X rd r v' → v' 0 = arrF (P.at true) zs n → v' 3 = strF (P.at true) zs n → v' 1 = arrF (P.at false) zs n → v' 2 = strF (P.at false) zs n → (∀ j, 4 ≤ j → v' j = v j) → V (.tuple ⟨[]⟩) A') :
    WF AP KL g 52 [ptrV X, sls] A V := by
  have hP := hu.of_at
  have hR := RS_ok (P := P) (zs := zs) (n := n) (v4 := v) hu hl
  rw [WF_body rfl (show AP 52 = some F52 from rfl)]
  simp (disch := as_aux_lemma => first | omega | simp only [hDs] <;> omega | simp [isCell]) [hRs, takeMarks, resA, resAll, resOne, Value.cells]
  refine loop52s (v := v) (A0 := A) hu hl hzu hzl hn hr hne hg (fun T' A1 k1 hW1 p0 => ?_) n 0 _ A (by omega) (Keep.refl _ _) hW (by simp) (by simp) (by simp)
  simp (disch := as_aux_lemma => first | omega | simp only [hDs] <;> omega | simp [isCell]) [hRs, takeMarks, resA, resAll, resOne, Value.cells]
  obtain ⟨s0, s1, s2, s3, s4⟩ := seed_get (zs := zs) hf n
  have n1 := k1.1
  refine loop52o (A0 := A1) (X := X) (rd := rd) (r := r) (R := RS P zs n v) hP hR (fun B v a b V' hB hI ha hb hq => ?_) (by omega) (fun T2 A2 v2 k2 hW2 hI hs => ?_) ((RS P zs n v).pot (seed P zs v n) + 1) _ A1 (seed P zs v n) true (Keep.refl _ _) hW1 ⟨?_, ?_, s4⟩ (fun _ => Nat.lt_succ_self _) (fun e => absurd e (by decide)) ?_ ?_
  · exact w74 hu hl hB ⟨fun c hc => hI.1.a c hc, fun c hc => hI.2.1.a c hc, fun c hc => hI.2.1.s c hc, fun c hc => hI.1.s c hc⟩ ha (nb_lt hl hb) hg hq
  · simp (disch := as_aux_lemma => first | omega | simp only [hDs] <;> omega | simp [isCell]) [hRs, takeMarks, resA, resAll, resOne, Value.cells]
    have hq : ∀ a b, a < P.l.length → b ∈ nbP P a → passR P a b v2 = v2 := fun a b ha hb => hs b (nb_lt hP hb) a ((refN_mem hP (nb_lt hP hb)).2 ⟨ha, hb⟩)
    have fu := hI.1.fin hu hzu fun a b ha hb => by
      obtain ⟨e0, e3, e1, e2, e4⟩ := passR_get (P := P) (a := a) (b := b) (v := v2)
      rw [hq a b ha hb] at e0 e3
      exact Prod.ext e0.symm e3.symm
    have fl := hI.2.1.fin hl hzl fun a b ha hb => by
      obtain ⟨e0, e3, e1, e2, e4⟩ := passR_get (P := P) (a := a) (b := b) (v := v2)
      rw [hq a b ha hb] at e1 e2
      exact Prod.ext e1.symm e2.symm
    exact hQ A2 v2 (k1.trans k2) hW2 fu.1 fu.2 fl.1 fl.2 hI.2.2
  · rw [s0, s3]; exact EndI.start hu hzu
  · rw [s1, s2]; exact EndI.start hl hzl
  · simp [p0]
  · simp
end
end Go.Ab.Wave
namespace Go.Ab.Wave
open Go Go.Ab
def p77a : ACode := (.seq
 (.ops [
oM 59 0,
oM 60 2,
oA 61 71 [.t 59, .t 60] false,
oP 62 (.not (.t 61)),
oM 63 62,
oN 64 63 true 0,
oQ 65 63 true (.nilCheck (.t 64)),
oQ 66 63 true (.fieldAddr (.t 65) 17),
oQ 67 63 true (.load (.t 66) none),
oN 68 63 true 1,
oQ 69 63 true (.idxS (.t 67) (.t 68) 1),
oQ 70 63 true (.load (.t 69) none),
oQ 71 63 true (.bin .neq (.t 70) (oK (-1099511627776))),
oP 72 (.pick (.t 63) (.t 71) (.k (.bool false))),
oM 73 72,
oN 74 73 true 8,
oN 75 73 true 0,
oQ 76 73 true (.nilCheck (.t 75)),
oQ 77 73 true (.fieldAddr (.t 76) 0),
oQ 78 73 true (.fieldAddr (.t 77) 3),
oQ 79 73 true (.load (.t 78) none),
oN 80 73 true 2,
oQ 81 73 true (.idxS (.t 79) (.t 80) 2),
oQ 82 73 true (.fieldAddr (.t 81) 0),
oQ 83 73 true (.load (.t 82) none),
oQ 84 73 true (.bin .gtr (.t 74) (.t 83)),
oP 85 (.pick (.t 73) (.t 84) (.k (.bool false)))])
 (.cond (.t 85)
 (.seq
 (.ops [
oM 86 0,
oP 87 (.nilCheck (.t 86)),
oF 88 87 18,
oL 89 88,
oM 90 2,
oM 91 0,
oP 92 (.nilCheck (.t 91)),
oF 93 92 18,
oL 94 93,
oM 95 2,
oI 96 94 95 1,
oL 97 96,
oM 98 8,
oP 99 (.max [.t 97, .t 98]),
oI 100 89 90 1,
oT 100 99 1])
 (.seq
 (.ops [
oM 101 0,
oP 102 (.nilCheck (.t 101)),
oF 103 102 17,
oL 104 103,
oM 105 2,
oM 106 0,
oP 107 (.nilCheck (.t 106)),
oF 108 107 17,
oL 109 108,
oM 110 2,
oI 111 109 110 1,
oL 112 111,
oM 113 8,
oP 114 (.max [.t 112, .t 113]),
oI 115 104 105 1,
oT 115 114 1])
 (.ops [
oM 116 0,
oP 117 (.nilCheck (.t 116)),
oF 118 117 20,
oL 119 118,
oM 120 2,
oM 121 0,
oP 122 (.nilCheck (.t 121)),
oF 123 122 20,
oL 124 123,
oM 125 2,
oI 126 124 125 1,
oL 127 126,
oM 128 0,
oP 129 (.nilCheck (.t 128)),
oF 130 129 20,
oL 131 130,
oM 132 1,
oI 133 131 132 1,
oL 134 133,
oM 135 0,
oP 136 (.nilCheck (.t 135)),
oF 137 136 6,
oF 138 137 2,
oF 139 138 0,
oL 140 139,
oM 141 0,
oP 142 (.nilCheck (.t 141)),
oF 143 142 0,
oF 144 143 2,
oL 145 144,
oB 146 .mul 140 145,
oB 147 .add 134 146,
oP 148 (.min [.t 127, .t 147]),
oI 149 119 120 1,
oT 149 148 1])))
 .skip))
def p77b : ACode := (.seq
 (.ops [
oM 164 0,
oM 165 2,
oA 166 79 [.t 164, .t 165] false,
oM 167 166,
oN 168 167 true 0,
oQ 169 167 true (.nilCheck (.t 168)),
oQ 170 167 true (.fieldAddr (.t 169) 19),
oQ 171 167 true (.load (.t 170) none),
oN 172 167 true 1,
oQ 173 167 true (.idxS (.t 171) (.t 172) 1),
oQ 174 167 true (.load (.t 173) none),
oQ 175 167 true (.bin .neq (.t 174) (oK (-1099511627776))),
oP 176 (.pick (.t 167) (.t 175) (.k (.bool false))),
oM 177 176,
oN 178 177 true 8,
oN 179 177 true 0,
oQ 180 177 true (.nilCheck (.t 179)),
oQ 181 177 true (.fieldAddr (.t 180) 0),
oQ 182 177 true (.fieldAddr (.t 181) 3),
oQ 183 177 true (.load (.t 182) none),
oN 184 177 true 2,
oQ 185 177 true (.idxS (.t 183) (.t 184) 2),
oQ 186 177 true (.fieldAddr (.t 185) 1),
oQ 187 177 true (.load (.t 186) none),
oQ 188 177 true (.bin .gtr (.t 178) (.t 187)),
oP 189 (.pick (.t 177) (.t 188) (.k (.bool false)))])
 (.cond (.t 189)
 (.seq
 (.ops [
oM 190 0,
oP 191 (.nilCheck (.t 190)),
oF 192 191 19,
oL 193 192,
oM 194 2,
oM 195 0,
oP 196 (.nilCheck (.t 195)),
oF 197 196 19,
oL 198 197,
oM 199 2,
oI 200 198 199 1,
oL 201 200,
oM 202 8,
oP 203 (.max [.t 201, .t 202]),
oI 204 193 194 1,
oT 204 203 1])
 (.ops [
oM 205 0,
oP 206 (.nilCheck (.t 205)),
oF 207 206 21,
oL 208 207,
oM 209 2,
oM 210 0,
oP 211 (.nilCheck (.t 210)),
oF 212 211 21,
oL 213 212,
oM 214 2,
oI 215 213 214 1,
oL 216 215,
oM 217 0,
oP 218 (.nilCheck (.t 217)),
oF 219 218 21,
oL 220 219,
oM 221 1,
oI 222 220 221 1,
oL 223 222,
oM 224 0,
oP 225 (.nilCheck (.t 224)),
oF 226 225 6,
oF 227 226 2,
oF 228 227 1,
oL 229 228,
oM 230 0,
oP 231 (.nilCheck (.t 230)),
oF 232 231 0,
oF 233 232 2,
oL 234 233,
oB 235 .mul 229 234,
oB 236 .add 223 235,
oP 237 (.min [.t 216, .t 236]),
oI 238 208 209 1,
oT 238 237 1]))
 .skip))
def h77 : ACode := .seq (.ops [
oP 6 (.move (.k (.bool false)))]) (.seq (.ops [
oM 9 0,
oP 10 (.nilCheck (.t 9)),
oF 11 10 17,
oL 12 11,
oM 13 2,
oI 14 12 13 1,
oL 15 14,
oM 16 0,
oP 17 (.nilCheck (.t 16)),
oF 18 17 18,
oL 19 18,
oM 20 2,
oI 21 19 20 1,
oL 22 21,
oM 23 0,
oP 24 (.nilCheck (.t 23)),
oF 25 24 19,
oL 26 25,
oM 27 2,
oI 28 26 27 1,
oL 29 28,
oM 30 0,
oP 31 (.nilCheck (.t 30)),
oF 32 31 20,
oL 33 32,
oM 34 2,
oI 35 33 34 1,
oL 36 35,
oM 37 0,
oP 38 (.nilCheck (.t 37)),
oF 39 38 21,
oL 40 39,
oM 41 2,
oI 42 40 41 1,
oL 43 42,
oP 44 (.build [.int .i64 0, .int .i64 0, .int .i64 0, .int .i64 0, .int .i64 0] [(0, 1, .t 15), (1, 1, .t 22), (2, 1, .t 29), (3, 1, .t 36), (4, 1, .t 43)]),
oP 7 (.alloc [.int .i64 0, .int .i64 0, .int .i64 0, .int .i64 0, .int .i64 0]),
oT 7 44 5]) (.seq (.ops [
oM 45 0,
oP 46 (.nilCheck (.t 45)),
oF 47 46 17,
oL 48 47,
oM 49 1,
oI 50 48 49 1,
oL 51 50,
oM 52 0,
oP 53 (.nilCheck (.t 52)),
oF 54 53 6,
oF 55 54 4,
oF 56 55 0,
oL 57 56,
oB 58 .sub 51 57,
oM 8 58]) (.seq p77a (.seq (.ops [
oM 150 0,
oP 151 (.nilCheck (.t 150)),
oF 152 151 19,
oL 153 152,
oM 154 1,
oI 155 153 154 1,
oL 156 155,
oM 157 0,
oP 158 (.nilCheck (.t 157)),
oF 159 158 6,
oF 160 159 4,
oF 161 160 1,
oL 162 161,
oB 163 .sub 156 162,
oM 8 163]) (.seq p77b (.seq
 (.ops [
oD 239 7 5,
oM 240 0,
oP 241 (.nilCheck (.t 240)),
oF 242 241 17,
oL 243 242,
oM 244 2,
oI 245 243 244 1,
oL 246 245,
oM 247 0,
oP 248 (.nilCheck (.t 247)),
oF 249 248 18,
oL 250 249,
oM 251 2,
oI 252 250 251 1,
oL 253 252,
oM 254 0,
oP 255 (.nilCheck (.t 254)),
oF 256 255 19,
oL 257 256,
oM 258 2,
oI 259 257 258 1,
oL 260 259,
oM 261 0,
oP 262 (.nilCheck (.t 261)),
oF 263 262 20,
oL 264 263,
oM 265 2,
oI 266 264 265 1,
oL 267 266,
oM 268 0,
oP 269 (.nilCheck (.t 268)),
oF 270 269 21,
oL 271 270,
oM 272 2,
oI 273 271 272 1,
oL 274 273,
oP 275 (.build [.int .i64 0, .int .i64 0, .int .i64 0, .int .i64 0, .int .i64 0] [(0, 1, .t 246), (1, 1, .t 253), (2, 1, .t 260), (3, 1, .t 267), (4, 1, .t 274)]),
oP 276 (.eqv true [false, false, false, false, false] (.t 239) (.t 275)),
oM 6 276])
 .ret))))))
theorem AP77 : AP 77 = some (.fn 277 [.tmp 6] h77) := rfl
def landE (P : Par) : Int := agE P.up P.l0 P.l1 * P.s
def spillA (P : Par) (vu vf : List Int) (a b : Nat) : List Int × List Int :=
  if (P.spU a b (gi vu a)).2 = true then (vu.set b (max (gi vu b) (P.spU a b (gi vu a)).1), vf.set b (min (gi vf b) (gi vf a + landE P))) else (vu, vf)
def spillL (P : Par) (vu la : List Int) (a b : Nat) : List Int := if (P.spU a b (gi vu a)).2 = true then la.set b (max (gi la b) (P.spU a b (gi vu a)).1) else la
def spillU (P : Par) (a b : Nat) (v : Nat → List Int) : Nat → List Int := upd (upd (upd v 5 (spillL (P.at true) (v 4) (v 5) a b)) 4 (spillA (P.at true) (v 4) (v 7) a b).1) 7 (spillA (P.at true) (v 4) (v 7) a b).2
def spillD (P : Par) (a b : Nat) (v : Nat → List Int) : Nat → List Int := upd (upd v 6 (spillA (P.at false) (v 6) (v 8) a b).1) 8 (spillA (P.at false) (v 6) (v 8) a b).2
structure VOk2 (P : Par) (v : Nat → List Int) : Prop where
  a4 : ∀ c, c < P.l.length → SurfV (gi (v 4) c)
  a6 : ∀ c, c < P.l.length → SurfV (gi (v 6) c)
  a7 : ∀ c, c < P.l.length → 0 ≤ gi (v 7) c ∧ gi (v 7) c ≤ Never
  a8 : ∀ c, c < P.l.length → 0 ≤ gi (v 8) c ∧ gi (v 8) c ≤ Never
theorem surfB {v : Int} (h : SurfV v) : -1099511627776 ≤ v ∧ v ≤ 200020000 := by
  rcases h with h | h <;> (try unfold Never at h) <;> omega
section
variable {g : Nat} {A : Hp} {V : Value → Hp → Prop} {P : Par} {X rd : Nat} {r : Nat → Nat} {v : Nat → List Int} {a b B7 : Nat} {bc : List Value} {A0 : Hp} {T : List Value} {D : List Nat} {rdd : Option Nat}
theorem r77a (hP : POk (P.at true)) (hO : VOk2 P v) (ha : a < P.l.length) (hb : b < P.l.length) (hg : ∀ i, i < 9 → g ≤ r i) (h : S74 P X rd r a b B7 bc A0 v T A) (t8 : tget T 8 = .int .i64 (gi (v 4) a - P.o0)) :
    W AP KL g rdd p77a ⟨T, D, A⟩ (fun ex st => ex = .normal ∧ st.D = D ∧ S74 P X rd r a b B7 bc A0 (spillU P a b v) st.T st.A) := by
  have t0 := h.t0
  have t1 := h.t1
  have t2 := h.t2
  have hW := h.w
  have hX := hW.hx
  have vu := hW.hv 4 (by omega)
  have vf := hW.hv 7 (by omega)
  have nu : (v 4).length = P.l.length := hW.nv 4 (by omega)
  have nf : (v 7).length = P.l.length := hW.nv 7 (by omega)
  have ou := surfB (hO.a4 a ha)
  have fa := hO.a7 a ha
  have ob := surfB (hO.a4 b hb)
  have fb := hO.a7 b hb
  have hlo := hP.loss
  have hlo' : 0 ≤ P.o0 ∧ P.o0 ≤ P.o1 ∧ P.o1 ≤ 1000 := hlo
  have hle := hP.landE
  have hle' : 0 ≤ P.l0 * P.s ∧ P.l0 * P.s ≤ 1000000000 := hle
  obtain ⟨y, cap, ro, hsl, hy⟩ := ground_two (P := P) hW.hg hb
  have hgl : (flat2 P.l).length = P.l.length * 2 := flat2_length _
  have eg0 : gi (flat2 P.l) (b * 2) = P.glo b := rfl
  have eg1 : gi (flat2 P.l) (b * 2 + 1) = P.ghi b := rfl
  have eS : (P.at true).spU a b (gi (v 4) a) = (gi (v 4) a - P.o0, (!decide (gi (v 4) a = -Never)) && (decide ((P.at true).lst b ≤ 0) && decide (P.glo b < gi (v 4) a - P.o0))) := rfl
  have el : (P.at true).lst b = (P.at false).dep b := rfl
  have hNo : ((P.at true).spU a b (gi (v 4) a)).2 = false → spillU P a b v = v := by
    intro e
    have h1 : spillA (P.at true) (v 4) (v 7) a b = (v 4, v 7) := by unfold spillA; rw [e]; rfl
    unfold spillU
    rw [h1]
    have h2 : spillL (P.at true) (v 4) (v 5) a b = v 5 := by unfold spillL; rw [e]; rfl
    rw [h2]
    simp only [upd_same]
  simp (disch := as_aux_lemma => first | omega | simp only [hDs] <;> omega | simp [isCell]) [hRs, takeMarks, resA, resAll, resOne, Value.cells, p77a, t0, t1, t2]
  refine w71 hW hb ?_
  by_cases c1 : ¬ 1 ≤ (P.at false).dep b
  · by_cases c2 : gi (v 4) a = -1099511627776
    · simp (disch := as_aux_lemma => first | omega | simp only [hDs] <;> omega | simp [isCell]) [hRs, takeMarks, resA, resAll, resOne, Value.cells, c1, t0, t1, t2, ptrV, hX, wkCells, rowS2, rowS1, idxSA_ok, show (a : Int) < P.l.length by omega, vu, ints_get, c2]
      rw [hNo (by rw [eS]; simp [c2, Never])]
      refine h.same fun j hj => ?_
      simp only [tget_tset]
      repeat (rw [if_neg (by omega)])
    · by_cases c3 : P.glo b < gi (v 4) a - P.o0
      · have hyes : ((P.at true).spU a b (gi (v 4) a)).2 = true := by rw [eS]; simp [c2, c3, Never, el]; omega
        have e1 : ((P.at true).spU a b (gi (v 4) a)).1 = gi (v 4) a - P.o0 := rfl
        have eL : landE (P.at true) = P.l0 * P.s := rfl
        have hA : spillA (P.at true) (v 4) (v 7) a b = ((v 4).set b (max (gi (v 4) b) (gi (v 4) a - P.o0)), (v 7).set b (min (gi (v 7) b) (gi (v 7) a + P.l0 * P.s))) := by unfold spillA; rw [if_pos hyes, e1, eL]
        have hB : spillL (P.at true) (v 4) (v 5) a b = (v 5).set b (max (gi (v 5) b) (gi (v 4) a - P.o0)) := by unfold spillL; rw [if_pos hyes, e1]
        have vl := hW.hv 5 (by omega)
        have nl : (v 5).length = P.l.length := hW.nv 5 (by omega)
        have p1 := h.put (T' := T) (i := 5) (by omega) (l := (v 5).set b (max (gi (v 5) b) (gi (v 4) a - P.o0))) (by rw [List.length_set]; exact nl) (fun _ _ => rfl)
        have p2 := p1.put (T' := T) (i := 4) (by omega) (l := (v 4).set b (max (gi (v 4) b) (gi (v 4) a - P.o0))) (by rw [List.length_set]; exact nu) (fun _ _ => rfl)
        have p3 := p2.put (T' := T) (i := 7) (by omega) (l := (v 7).set b (min (gi (v 7) b) (gi (v 7) a + P.l0 * P.s))) (by rw [List.length_set]; exact nf) (fun _ _ => rfl)
        have q1 := Hp.lt_of_get vl
        have q2 := Hp.lt_of_get vu
        have n45 := hW.ne 4 5 (by omega) (by omega) (by omega)
        have n75 := hW.ne 7 5 (by omega) (by omega) (by omega)
        have n74 := hW.ne 7 4 (by omega) (by omega) (by omega)
        have x1 := (hW.nd 5 (by omega)).2
        have x2 := (hW.nd 4 (by omega)).2
        have s1 : ∀ z, (A.set (r 5) z).get X = A.get X := fun z => get_set_ne q1 (fun e => x1 e.symm)
        have s2 : ∀ z, (A.set (r 5) z).get (r 4) = A.get (r 4) := fun z => get_set_ne q1 n45
        have s3 : ∀ z z', ((A.set (r 5) z).set (r 4) z').get X = A.get X := fun z z' => by rw [get_set_ne (show r 4 < (A.set (r 5) z).n from q2) (fun e => x2 e.symm)]; exact s1 z
        have s4 : ∀ z z', ((A.set (r 5) z).set (r 4) z').get (r 7) = A.get (r 7) := fun z z' => by rw [get_set_ne (show r 4 < (A.set (r 5) z).n from q2) n74, get_set_ne q1 n75]
        simp (disch := as_aux_lemma => first | omega | simp only [hDs] <;> omega | simp [isCell]) [hRs, takeMarks, resA, resAll, resOne, Value.cells, c1, t0, t1, t2, t8, ptrV, hX, wkCells, rowS2, rowS1, idxSA_ok, show (a : Int) < P.l.length by omega, show (b : Int) < P.l.length by omega, vu, vl, vf, ints_get, c2, hsl, hy, eg0, eg1, c3, storeB_int (show b < (v 5).length by omega) (hg 5 (by omega)), s1, s2, storeB_int (show b < (v 4).length by omega) (hg 4 (by omega)), s3, s4, wrId (n := P.l0 * P.s) (by omega) (by omega), wrId (n := gi (v 7) a + P.l0 * P.s) (by unfold Never at fa; omega) (by unfold Never at fa; omega), storeB_int (show b < (v 7).length by omega) (hg 7 (by omega))]
        unfold spillU
        rw [hA, hB]
        refine p3.same fun j hj => ?_
        simp only [tget_tset]
        repeat (rw [if_neg (by omega)])
      · simp (disch := as_aux_lemma => first | omega | simp only [hDs] <;> omega | simp [isCell]) [hRs, takeMarks, resA, resAll, resOne, Value.cells, c1, t0, t1, t2, t8, ptrV, hX, wkCells, rowS2, rowS1, idxSA_ok, show (a : Int) < P.l.length by omega, show (b : Int) < P.l.length by omega, vu, ints_get, c2, hsl, hy, eg0, eg1, c3]
        rw [hNo (by rw [eS]; simp [c3])]
        refine h.same fun j hj => ?_
        simp only [tget_tset]
        repeat (rw [if_neg (by omega)])
  · have c1 : 1 ≤ (P.at false).dep b := by omega
    simp (disch := as_aux_lemma => first | omega | simp only [hDs] <;> omega | simp [isCell]) [hRs, takeMarks, resA, resAll, resOne, Value.cells, c1]
    rw [hNo (by rw [eS]; have : ¬ (P.at true).lst b ≤ 0 := by rw [el]; omega
                simp [this])]
    refine h.same fun j hj => ?_
    simp only [tget_tset]
    repeat (rw [if_neg (by omega)])
theorem r77b (hP : POk (P.at false)) (hO : VOk2 P v) (ha : a < P.l.length) (hb : b < P.l.length) (hg : ∀ i, i < 9 → g ≤ r i) (h : S74 P X rd r a b B7 bc A0 v T A) (t8 : tget T 8 = .int .i64 (gi (v 6) a - P.o1)) :
    W AP KL g rdd p77b ⟨T, D, A⟩ (fun ex st => ex = .normal ∧ st.D = D ∧ S74 P X rd r a b B7 bc A0 (spillD P a b v) st.T st.A) := by
  have t0 := h.t0
  have t1 := h.t1
  have t2 := h.t2
  have hW := h.w
  have hX := hW.hx
  have vu := hW.hv 6 (by omega)
  have vf := hW.hv 8 (by omega)
  have nu : (v 6).length = P.l.length := hW.nv 6 (by omega)
  have nf : (v 8).length = P.l.length := hW.nv 8 (by omega)
  have ou := surfB (hO.a6 a ha)
  have fa := hO.a8 a ha
  have ob := surfB (hO.a6 b hb)
  have fb := hO.a8 b hb
  have hlo := hP.loss
  have hlo' : 0 ≤ P.o0 ∧ P.o0 ≤ P.o1 ∧ P.o1 ≤ 1000 := hlo
  have hle := hP.landE
  have hle' : 0 ≤ P.l1 * P.s ∧ P.l1 * P.s ≤ 1000000000 := hle
  obtain ⟨y, cap, ro, hsl, hy⟩ := ground_two (P := P) hW.hg hb
  have hgl : (flat2 P.l).length = P.l.length * 2 := flat2_length _
  have eg0 : gi (flat2 P.l) (b * 2) = P.glo b := rfl
  have eg1 : gi (flat2 P.l) (b * 2 + 1) = P.ghi b := rfl
  have eS : (P.at false).spU a b (gi (v 6) a) = (gi (v 6) a - P.o1, (!decide (gi (v 6) a = -Never)) && (decide ((P.at false).lst b ≤ 0) && decide (P.ghi b < gi (v 6) a - P.o1))) := rfl
  have el : (P.at false).lst b = (P.at true).dep b := rfl
  have hNo : ((P.at false).spU a b (gi (v 6) a)).2 = false → spillD P a b v = v := by
    intro e
    have h1 : spillA (P.at false) (v 6) (v 8) a b = (v 6, v 8) := by unfold spillA; rw [e]; rfl
    unfold spillD
    rw [h1]
    simp only [upd_same]
  simp (disch := as_aux_lemma => first | omega | simp only [hDs] <;> omega | simp [isCell]) [hRs, takeMarks, resA, resAll, resOne, Value.cells, p77b, t0, t1, t2]
  refine w79 hW hb ?_
  by_cases c1 : (P.at true).dep b ≤ 0
  · by_cases c2 : gi (v 6) a = -1099511627776
    · simp (disch := as_aux_lemma => first | omega | simp only [hDs] <;> omega | simp [isCell]) [hRs, takeMarks, resA, resAll, resOne, Value.cells, c1, t0, t1, t2, ptrV, hX, wkCells, rowS2, rowS1, idxSA_ok, show (a : Int) < P.l.length by omega, vu, ints_get, c2]
      rw [hNo (by rw [eS]; simp [c2, Never])]
      refine h.same fun j hj => ?_
      simp only [tget_tset]
      repeat (rw [if_neg (by omega)])
    · by_cases c3 : P.ghi b < gi (v 6) a - P.o1
      · have hyes : ((P.at false).spU a b (gi (v 6) a)).2 = true := by rw [eS]; simp [c2, c3, Never, el]; omega
        have e1 : ((P.at false).spU a b (gi (v 6) a)).1 = gi (v 6) a - P.o1 := rfl
        have eL : landE (P.at false) = P.l1 * P.s := rfl
        have hA : spillA (P.at false) (v 6) (v 8) a b = ((v 6).set b (max (gi (v 6) b) (gi (v 6) a - P.o1)), (v 8).set b (min (gi (v 8) b) (gi (v 8) a + P.l1 * P.s))) := by unfold spillA; rw [if_pos hyes, e1, eL]
        have p2 := h.put (T' := T) (i := 6) (by omega) (l := (v 6).set b (max (gi (v 6) b) (gi (v 6) a - P.o1))) (by rw [List.length_set]; exact nu) (fun _ _ => rfl)
        have p3 := p2.put (T' := T) (i := 8) (by omega) (l := (v 8).set b (min (gi (v 8) b) (gi (v 8) a + P.l1 * P.s))) (by rw [List.length_set]; exact nf) (fun _ _ => rfl)
        have q2 := Hp.lt_of_get vu
        have n74 := hW.ne 8 6 (by omega) (by omega) (by omega)
        have x2 := (hW.nd 6 (by omega)).2
        have s3 : ∀ z, (A.set (r 6) z).get X = A.get X := fun z => get_set_ne q2 (fun e => x2 e.symm)
        have s4 : ∀ z, (A.set (r 6) z).get (r 8) = A.get (r 8) := fun z => get_set_ne q2 n74
        simp (disch := as_aux_lemma => first | omega | simp only [hDs] <;> omega | simp [isCell]) [hRs, takeMarks, resA, resAll, resOne, Value.cells, c1, t0, t1, t2, t8, ptrV, hX, wkCells, rowS2, rowS1, idxSA_ok, show (a : Int) < P.l.length by omega, show (b : Int) < P.l.length by omega, vu, vf, ints_get, c2, hsl, hy, eg0, eg1, c3, storeB_int (show b < (v 6).length by omega) (hg 6 (by omega)), s3, s4, wrId (n := P.l1 * P.s) (by omega) (by omega), wrId (n := gi (v 8) a + P.l1 * P.s) (by unfold Never at fa; omega) (by unfold Never at fa; omega), storeB_int (show b < (v 8).length by omega) (hg 8 (by omega))]
        unfold spillD
        rw [hA]
        refine p3.same fun j hj => ?_
        simp only [tget_tset]
        repeat (rw [if_neg (by omega)])
      · simp (disch := as_aux_lemma => first | omega | simp only [hDs] <;> omega | simp [isCell]) [hRs, takeMarks, resA, resAll, resOne, Value.cells, c1, t0, t1, t2, t8, ptrV, hX, wkCells, rowS2, rowS1, idxSA_ok, show (a : Int) < P.l.length by omega, show (b : Int) < P.l.length by omega, vu, ints_get, c2, hsl, hy, eg0, eg1, c3]
        rw [hNo (by rw [eS]; simp [c3])]
        refine h.same fun j hj => ?_
        simp only [tget_tset]
        repeat (rw [if_neg (by omega)])
  · skip
    simp (disch := as_aux_lemma => first | omega | simp only [hDs] <;> omega | simp [isCell]) [hRs, takeMarks, resA, resAll, resOne, Value.cells, c1]
    rw [hNo (by rw [eS]; have : ¬ (P.at false).lst b ≤ 0 := by rw [el]; omega
                simp [this])]
    refine h.same fun j hj => ?_
    simp only [tget_tset]
    repeat (rw [if_neg (by omega)])
end
end Go.Ab.Wave
