/- WaveSources: the law's walk. -/
import Derived.Test.YtmmpjfknmdlpoaaZ20
import Derived.Test.YtmmpjfknmdlpoaaZ18
import Derived.Test.YtmmpjfknmdlpoaaZ14
set_option linter.unusedSimpArgs false
set_option linter.unusedVariables false
set_option linter.unusedSectionVars false
namespace Go.Ab.Wave
open Go Go.Ab
def wkC (P : Par) (sv : Value) (r : Nat → Nat) : List Value :=
  [.int .i64 P.w, .int .i64 P.h, .int .i64 P.s, P.sl, .int .i64 P.slo, .int .i64 P.shi, .int .i64 P.k0, .int .i64 P.k1, .int .i64 P.l0, .int .i64 P.l1, .int .i64 P.o0, .int .i64 P.o1,
   sv, rowS1 (r 0) P.l.length, rowS1 (r 1) P.l.length, rowS1 (r 2) P.l.length, rowS1 (r 3) P.l.length, rowS1 (r 4) P.l.length, rowS1 (r 5) P.l.length, rowS1 (r 6) P.l.length, rowS1 (r 7) P.l.length, rowS1 (r 8) P.l.length]
section
variable {g : Nat} {A : Hp} {V : Value → Hp → Prop} {P : Par} {zs : List Int} {n : Nat} {sls : Value} {X : Nat} {r : Nat → Nat}
theorem loop28d {D : List Nat} {rdd : Option Nat} {Q : Ex → St → Prop} {A0 : Hp} {b4 b5 : Nat} {T0 : List Value} (hu : POk (P.at true)) (hl : POk (P.at false)) (hg : g ≤ X) (hN : X < A0.n) (h4 : b4 < X) (h5 : b5 < X)
    (hb4 : A0.get b4 = some (.cells [.int .i64 P.w, .int .i64 P.h, .int .i64 P.s, P.sl] false)) (hb5 : A0.get b5 = some (.cells [.int .i64 P.slo, .int .i64 P.shi] false)) (hgr : groundOf A0 P.sl = some P.l) (hgx : ∀ x' o k n c, P.sl = .slice (some ⟨x', o, k⟩) n c → x' < X)
    (hQ : ∀ T' A' sv, AccS A0.n A' 2 (ints (depL P)) sv → A'.get X = some (.cells (wkC P sv r) false) → (∀ y, y < A0.n → y ≠ X → A'.get y = A0.get y) → A0.n ≤ A'.n → (∀ i, i < 14 → tget T' i = tget T0 i) → Q (.exit 2) ⟨T', D, A'⟩) :
    ∀ (k i : Nat) (T : List Value) (A : Hp) (sv : Value), i + k = P.l.length → AccS A0.n A 2 (ints (depI P i)) sv → A.get X = some (.cells (wkC P sv r) false) → (∀ y, y < A0.n → y ≠ X → A.get y = A0.get y) → A0.n ≤ A.n → (∀ i, i < 14 → tget T i = tget T0 i) →
      tget T0 4 = ptrV b4 → tget T0 5 = ptrV b5 → tget T0 12 = .int .i64 P.l.length → tget T0 13 = ptrV X → tget T 14 = .int .i64 i → W AP KL g rdd (.loop body28d) ⟨T, D, A⟩ Q := by
  have hsm : P.l.length ≤ 40 := hu.small
  intro k
  induction k with
  | zero =>
    intro i T A sv hi hacc hX hold hn hT t4 t5 t12' t13 t14
    have e : i = P.l.length := by omega
    have t12 := (hT 12 (by omega)).trans t12'
    rw [W_loop]
    simp (disch := as_aux_lemma => first | omega | simp only [hDs] <;> omega | simp [isCell]) [hRs, takeMarks, resA, resAll, resOne, Value.cells, body28d, t12, t14, show ¬ (i : Int) < P.l.length by omega]
    rw [e] at hacc
    refine hQ _ A sv hacc hX hold hn fun j hj => ?_
    simp only [tget_tset]
    repeat (rw [if_neg (by omega)])
    exact hT j hj
  | succ k ih =>
    intro i T A sv hi hacc hX hold hn hT t4' t5' t12' t13' t14
    have hil : i < P.l.length := by omega
    have t4 := (hT 4 (by omega)).trans t4'
    have t5 := (hT 5 (by omega)).trans t5'
    have t12 := (hT 12 (by omega)).trans t12'
    have t13 := (hT 13 (by omega)).trans t13'
    have c4 := (hold b4 (by omega) (by omega)).trans hb4
    have c5 := (hold b5 (by omega) (by omega)).trans hb5
    obtain ⟨y, cap, ro, hsl, hy0⟩ := ground_two (P := P) hgr hil
    have hyX := hgx _ _ _ _ _ hsl
    have hy := (hold y (by omega) (by omega)).trans hy0
    have hgl : (flat2 P.l).length = P.l.length * 2 := flat2_length _
    have i0 := ints_get (l := flat2 P.l) (o := i * 2) (by omega)
    have i1 := ints_get (l := flat2 P.l) (o := i * 2 + 1) (by omega)
    have d0 := hl.dep (c := i) hil
    have d1 := hu.dep (c := i) hil
    have x0 : (P.at false).dep i = P.slo - gi (flat2 P.l) (i * 2 + 1) := rfl
    have x1 : (P.at true).dep i = P.shi - gi (flat2 P.l) (i * 2) := rfl
    have e0 : wr .i64 (P.slo - gi (flat2 P.l) (i * 2 + 1)) = (P.at false).dep i := by rw [wrId (by omega) (by omega)]; rfl
    have e1 : wr .i64 (P.shi - gi (flat2 P.l) (i * 2)) = (P.at true).dep i := by rw [wrId (by omega) (by omega)]; rfl
    have hli : (depI P i).length = i * 2 := depI_len
    obtain ⟨sv', A', e, hacc', hold', hn'⟩ := hacc.add (g := g) (bytes := 16) (new := [.int .i64 ((P.at false).dep i), .int .i64 ((P.at true).dep i)]) (ro := false) (n := i) (by omega) hn rfl (by decide) rfl (by rw [ints_length, hli]) (by unfold room; omega)
    have hX' := (hold' X (by omega)).trans hX
    have hXn := Hp.lt_of_get hX'
    obtain ⟨p, m, cc, rfl⟩ := hacc'.isSlice
    have hst : storeB (some (.cells (wkC P sv r) false)) g A' X 12 [.slice p m cc] 1 = some (undef, A'.set X (some (.cells (wkC P (.slice p m cc) r) false))) := by
      have := storeB_cells (A := A') (g := g) (k := X) (o := 12) (size := 1) (cs := wkC P sv r) (vs := [.slice p m cc]) rfl hg (by simp [wkC]) rfl
      rw [this]
      rfl
    have hc12 : cellAt (wkC P sv r) 12 = some sv := rfl
    rw [W_loop]
    simp (disch := as_aux_lemma => first | omega | simp only [hDs] <;> omega | simp [isCell]) [hRs, takeMarks, resA, resAll, resOne, Value.cells, body28d, t12, t14, t13, t4, t5, ptrV, show (i : Int) < P.l.length by omega, hX, hc12, c5, c4, hsl, idxSA_ok, hy, i0, i1, e0, e1, fillA, setRange, slitA, e, hX', hst]
    refine ih (i + 1) _ _ (.slice p m cc) (by omega) ?_ (get_set_same hX') (fun z hz hne => ?_) (by show A0.n ≤ A'.n; omega) (fun j hj => ?_) t4' t5' t12' t13' ?_
    · rw [depI_succ, ints_append]
      rcases hacc' with h | ⟨b, m', q1, q3, q4, q5, q6⟩
      · exact .inl h
      · exact .inr ⟨b, m', q1, by rw [get_set_ne hXn (by omega)]; exact q3, q4, q5, q6⟩
    · rw [get_set_ne hXn hne, hold' z hz, hold z hz hne]
    · simp only [tget_tset]
      repeat (rw [if_neg (by omega)])
      exact hT j hj
    · simp [wrId (n := (i : Int) + 1) (by omega) (by omega)]
theorem loop28o {rd : Nat} {v : Nat → List Int} {D : List Nat} {rdd : Option Nat} {Q : Ex → St → Prop} {A0 : Hp} (hok : SprOk P zs n) (hfin : SprFin P zs n) (hW : Work A0 P X rd r v) (hd : Done P zs n v) (hg : g ≤ A0.n)
    (hQ : ∀ T' A' sv, AccS A0.n A' 8 (ints (bounds P zs n)) sv → Ext' A0 A' → tget T' 15 = sv → Q (.exit 4) ⟨T', D, A'⟩) :
    ∀ (k i : Nat) (T : List Value) (A : Hp) (sv : Value), i + k = P.l.length → AccS A0.n A 8 (ints ((E0 P zs n).rows i)) sv → Ext' A0 A → tget T 12 = .int .i64 P.l.length → tget T 13 = ptrV X → tget T 15 = sv → tget T 16 = .int .i64 i → W AP KL g rdd (.loop body28o) ⟨T, D, A⟩ Q := by
  have hsm : P.l.length ≤ 40 := hok.pl.small
  intro k
  induction k with
  | zero =>
    intro i T A sv hi hacc hk t12 t13 t15 t16
    have e : i = P.l.length := by omega
    rw [W_loop]
    simp (disch := as_aux_lemma => first | omega | simp only [hDs] <;> omega | simp [isCell]) [hRs, takeMarks, resA, resAll, resOne, Value.cells, body28o, t12, t16, show ¬ (i : Int) < P.l.length by omega]
    rw [e] at hacc
    exact hQ _ A sv hacc hk (by simp [t15])
  | succ k ih =>
    intro i T A sv hi hacc hk t12 t13 t15 t16
    have hil : i < P.l.length := by omega
    have hkn := hk.1
    rw [W_loop]
    simp (disch := as_aux_lemma => first | omega | simp only [hDs] <;> omega | simp [isCell]) [hRs, takeMarks, resA, resAll, resOne, Value.cells, body28o, t12, t13, t15, t16, show (i : Int) < P.l.length by omega]
    refine w54 (P := P) (zs := zs) (n := n) (v := v) ⟨hok, hfin, hil⟩ (hW.ext hk) hd (by omega) fun A1 k1 => ?_
    have hacc1 : AccS A0.n A1 8 (ints ((E0 P zs n).rows i)) sv := hacc.mono fun x hx => k1.2 x hx
    have hlen : ((E0 P zs n).rows i).length = i * 8 := Spr.rows_len
    have hr8 : ((E0 P zs n).row i).length = 8 := rfl
    obtain ⟨sv', A', e, hacc', hold', hn'⟩ := hacc1.add (g := g) (bytes := 64) (new := ints ((E0 P zs n).row i)) (ro := false) (n := i) hg (by have := k1.1; omega) (by rw [ints_length, hr8]) (by decide) (ints_isCell _) (by rw [ints_length, hlen]) (by unfold room; omega)
    have hfl : fillA [.int .i64 0, .int .i64 0, .int .i64 0, .int .i64 0, .int .i64 0, .int .i64 0, .int .i64 0, .int .i64 0] [(0, 8, .agg ⟨ints ((E0 P zs n).row i)⟩)] = some (ints ((E0 P zs n).row i)) := rfl
    simp (disch := as_aux_lemma => first | omega | simp only [hDs] <;> omega | simp [isCell]) [hRs, takeMarks, resA, resAll, resOne, Value.cells, t15, t16, slitA, hfl, e]
    refine ih (i + 1) _ A' sv' (by omega) ?_ ⟨by have := k1.1; omega, fun z hz => by rw [hold' z hz, k1.2 z (by omega), hk.2 z hz]⟩ ?_ ?_ ?_ ?_
    · rw [Spr.rows_succ, ints_append]; exact hacc'
    · simp [t12]
    · simp [t13]
    · simp
    · simp [wrId (n := (i : Int) + 1) (by omega) (by omega)]
end
end Go.Ab.Wave
namespace Go.Ab.Wave
open Go Go.Ab
section
variable {g : Nat} {A : Hp} {V : Value → Hp → Prop} {P : Par} {zs : List Int} {n : Nat} {sls : Value}
theorem fill_at {B : Hp} {N : Nat} {x : Int} {sv : Value} (hp : 0 < P.l.length) (h : AccS N B 1 (ints (List.replicate P.l.length x)) sv) : ∃ b, sv = rowS1 b P.l.length ∧ B.get b = some (.cells (ints (List.replicate P.l.length x)) false) ∧ N ≤ b := by
  rcases h with ⟨h1, h2⟩ | ⟨b, m, h1, h2, h3, h4, h5⟩
  · have e := congrArg List.length h2
    rw [ints_length, List.length_replicate] at e
    have e' : P.l.length = 0 := e
    omega
  · have e : m = P.l.length := by simpa using h4.symm
    exact ⟨b, by rw [h1, e]; rfl, h2, h3⟩
theorem w28 (hs : P.l.length ≤ 40) (hgr : groundOf A P.sl = some P.l) (hn : n < 1000000) (hr : RdS A 5 n (ints zs) sls) (hg : g ≤ A.n) (hF : sprE P zs n = 0 → SprFin P zs n)
    (hQ : ∀ A' sv, Ext' A A' → AccS A.n A' 8 (ints (sprRes P zs n)) sv → V (.tuple ⟨[sv, .int .i64 (sprE P zs n)]⟩) A') :
    WF AP KL g 28 [gridV P.w P.h P.s P.sl, spn P.slo P.shi, modelV P.k0 P.k1 P.l0 P.l1 P.o0 P.o1, sls] A V := by
  have hzl : zs.length = n * 5 := by have := hr.1; rwa [ints_length] at this
  have hlen : lenV P.sl = some (.int .i64 P.l.length) := by
    rcases (groundOf_cases hgr).2 with ⟨h1, h2⟩ | ⟨x, cap, ro, h1, _⟩
    · rw [h1, h2]; rfl
    · rw [h1]; rfl
  have hlenS := hr.len
  obtain ⟨B, hB⟩ : ∃ B, B = ((A.push (.cells [.int .i64 P.w, .int .i64 P.h, .int .i64 P.s, P.sl] false)).push (.cells [.int .i64 P.slo, .int .i64 P.shi] false)).push (.cells [.int .i64 P.k0, .int .i64 P.k1, .int .i64 P.l0, .int .i64 P.l1, .int .i64 P.o0, .int .i64 P.o1] false) := ⟨_, rfl⟩
  have kB : Ext' A B := by rw [hB]; exact ((Ext'.push _ _).trans (Ext'.push _ _)).trans (Ext'.push _ _)
  have b4 : B.get A.n = some (.cells [.int .i64 P.w, .int .i64 P.h, .int .i64 P.s, P.sl] false) := by rw [hB]; exact push3_a
  have b5 : B.get (A.n + 1) = some (.cells [.int .i64 P.slo, .int .i64 P.shi] false) := by rw [hB]; exact push3_b
  have b6 : B.get (A.n + 2) = some (.cells [.int .i64 P.k0, .int .i64 P.k1, .int .i64 P.l0, .int .i64 P.l1, .int .i64 P.o0, .int .i64 P.o1] false) := by rw [hB]; exact push3_c
  have nB : B.n = A.n + 3 := by rw [hB]; rfl
  have hgB := groundOf_mono hgr kB.2
  have bad : ∀ A' e, Ext' A A' → sprE P zs n = e → e ≠ 0 → V (.tuple ⟨[.slice none 0 0, .int .i64 e]⟩) A' := by
    intro A' e k h h0
    have := hQ A' (.slice none 0 0) k (.inl ⟨rfl, by unfold sprRes; rw [if_neg (by rw [h]; exact h0)]; rfl⟩)
    rw [h] at this
    exact this
  rw [WF_body rfl (show AP 28 = some F28 from rfl)]
  simp (disch := as_aux_lemma => first | omega | simp only [hDs] <;> omega | simp [isCell]) [hRs, takeMarks, resA, resAll, resOne, Value.cells, gridV, spn, modelV, J]
  rw [← hB]
  refine w46 hgB (by omega) fun A1 k1 => ?_
  have c4 := k1.get b4
  have c5 := k1.get b5
  have c6 := k1.get b6
  have n1 := k1.1
  by_cases h1 : prepE P = 0
  · by_cases h2 : 512 < n
    · simp (disch := as_aux_lemma => first | omega | simp only [hDs] <;> omega | simp [isCell]) [hRs, takeMarks, resA, resAll, resOne, Value.cells, h1, hlenS, show (512 : Int) < n by omega]
      exact bad _ 9 (kB.trans k1) (by unfold sprE; rw [if_pos h1, if_pos h2]) (by omega)
    · have he : sprE P zs n = stE P zs 0 n := by unfold sprE; rw [if_pos h1, if_neg h2]
      have kA := kB.trans k1
      simp (disch := as_aux_lemma => first | omega | simp only [hDs] <;> omega | simp [isCell]) [hRs, takeMarks, resA, resAll, resOne, Value.cells, h1, hlenS, show ¬ (512 : Int) < n by omega]
      refine loop28a (A0 := A1) (b4 := A.n) hn hlen c4 (hr.mono kA.2) (fun T' h3 hT => ?_) (fun T' h3 h8 h9 => ?_) n 0 _ (by omega) rfl (fun _ _ => rfl) ?_ ?_ ?_
      · have h0 : sprE P zs n = 0 := by rw [he]; exact h3
        have hfin := hF h0
        have hok : SprOk P zs n := SprOk.mk' (prep_ok h1 hs) (start_ok hzl h3)
        have hpos : 0 < P.l.length := hok.pl.pos
        have q4 := hT 4 (by omega)
        have q5 := hT 5 (by omega)
        have q6 := hT 6 (by omega)
        have q3 := hT 3 (by omega)
        simp at q4 q5 q6 q3
        simp (disch := as_aux_lemma => first | omega | simp only [hDs] <;> omega | simp [isCell]) [hRs, takeMarks, resA, resAll, resOne, Value.cells, q4, q5, q6, c4, c5, c6, hlen]
        refine w51 (x := 1099511627776) (m := P.l.length) (by omega) (by omega) fun F0 s0 kf0 hf0 => ?_
        obtain ⟨r0, rfl, g0, m0⟩ := fill_at hpos hf0
        have nf0 := kf0.1
        have rn0 := Hp.lt_of_get g0
        simp (disch := as_aux_lemma => first | omega | simp only [hDs] <;> omega | simp [isCell]) [hRs, takeMarks, resA, resAll, resOne, Value.cells, rowS1]
        refine w51 (x := 1099511627776) (m := P.l.length) (by omega) (by omega) fun F1 s1 kf1 hf1 => ?_
        obtain ⟨r1, rfl, g1, m1⟩ := fill_at hpos hf1
        have nf1 := kf1.1
        have rn1 := Hp.lt_of_get g1
        simp (disch := as_aux_lemma => first | omega | simp only [hDs] <;> omega | simp [isCell]) [hRs, takeMarks, resA, resAll, resOne, Value.cells, rowS1]
        refine w51 (x := 0) (m := P.l.length) (by omega) (by omega) fun F2 s2 kf2 hf2 => ?_
        obtain ⟨r2, rfl, g2, m2⟩ := fill_at hpos hf2
        have nf2 := kf2.1
        have rn2 := Hp.lt_of_get g2
        simp (disch := as_aux_lemma => first | omega | simp only [hDs] <;> omega | simp [isCell]) [hRs, takeMarks, resA, resAll, resOne, Value.cells, rowS1]
        refine w51 (x := 0) (m := P.l.length) (by omega) (by omega) fun F3 s3 kf3 hf3 => ?_
        obtain ⟨r3, rfl, g3, m3⟩ := fill_at hpos hf3
        have nf3 := kf3.1
        have rn3 := Hp.lt_of_get g3
        simp (disch := as_aux_lemma => first | omega | simp only [hDs] <;> omega | simp [isCell]) [hRs, takeMarks, resA, resAll, resOne, Value.cells, rowS1]
        refine w51 (x := (-1099511627776)) (m := P.l.length) (by omega) (by omega) fun F4 s4 kf4 hf4 => ?_
        obtain ⟨r4, rfl, g4, m4⟩ := fill_at hpos hf4
        have nf4 := kf4.1
        have rn4 := Hp.lt_of_get g4
        simp (disch := as_aux_lemma => first | omega | simp only [hDs] <;> omega | simp [isCell]) [hRs, takeMarks, resA, resAll, resOne, Value.cells, rowS1]
        refine w51 (x := (-1099511627776)) (m := P.l.length) (by omega) (by omega) fun F5 s5 kf5 hf5 => ?_
        obtain ⟨r5, rfl, g5, m5⟩ := fill_at hpos hf5
        have nf5 := kf5.1
        have rn5 := Hp.lt_of_get g5
        simp (disch := as_aux_lemma => first | omega | simp only [hDs] <;> omega | simp [isCell]) [hRs, takeMarks, resA, resAll, resOne, Value.cells, rowS1]
        refine w51 (x := (-1099511627776)) (m := P.l.length) (by omega) (by omega) fun F6 s6 kf6 hf6 => ?_
        obtain ⟨r6, rfl, g6, m6⟩ := fill_at hpos hf6
        have nf6 := kf6.1
        have rn6 := Hp.lt_of_get g6
        simp (disch := as_aux_lemma => first | omega | simp only [hDs] <;> omega | simp [isCell]) [hRs, takeMarks, resA, resAll, resOne, Value.cells, rowS1]
        refine w51 (x := 1099511627776) (m := P.l.length) (by omega) (by omega) fun F7 s7 kf7 hf7 => ?_
        obtain ⟨r7, rfl, g7, m7⟩ := fill_at hpos hf7
        have nf7 := kf7.1
        have rn7 := Hp.lt_of_get g7
        simp (disch := as_aux_lemma => first | omega | simp only [hDs] <;> omega | simp [isCell]) [hRs, takeMarks, resA, resAll, resOne, Value.cells, rowS1]
        refine w51 (x := 1099511627776) (m := P.l.length) (by omega) (by omega) fun F8 s8 kf8 hf8 => ?_
        obtain ⟨r8, rfl, g8, m8⟩ := fill_at hpos hf8
        have nf8 := kf8.1
        have rn8 := Hp.lt_of_get g8
        simp (disch := as_aux_lemma => first | omega | simp only [hDs] <;> omega | simp [isCell]) [hRs, takeMarks, resA, resAll, resOne, Value.cells, rowS1, fillA, setRange]
        obtain ⟨rf, hrf⟩ : ∃ rf : Nat → Nat, rf = fun j => match j with
          | 0 => r0
          | 1 => r1
          | 2 => r2
          | 3 => r3
          | 4 => r4
          | 5 => r5
          | 6 => r6
          | 7 => r7
          | _ => r8 := ⟨_, rfl⟩
        obtain ⟨vf, hvf⟩ : ∃ vf : Nat → List Int, vf = fun j => match j with
          | 0 => List.replicate P.l.length (Never)
          | 1 => List.replicate P.l.length (Never)
          | 2 => List.replicate P.l.length (0)
          | 3 => List.replicate P.l.length (0)
          | 4 => List.replicate P.l.length (-Never)
          | 5 => List.replicate P.l.length (-Never)
          | 6 => List.replicate P.l.length (-Never)
          | 7 => List.replicate P.l.length (Never)
          | _ => List.replicate P.l.length (Never) := ⟨_, rfl⟩
        have x0 : rf 0 = r0 := by rw [hrf]; rfl
        have x1 : rf 1 = r1 := by rw [hrf]; rfl
        have x2 : rf 2 = r2 := by rw [hrf]; rfl
        have x3 : rf 3 = r3 := by rw [hrf]; rfl
        have x4 : rf 4 = r4 := by rw [hrf]; rfl
        have x5 : rf 5 = r5 := by rw [hrf]; rfl
        have x6 : rf 6 = r6 := by rw [hrf]; rfl
        have x7 : rf 7 = r7 := by rw [hrf]; rfl
        have x8 : rf 8 = r8 := by rw [hrf]; rfl
        have y0 : vf 0 = List.replicate P.l.length (Never) := by rw [hvf]; rfl
        have y1 : vf 1 = List.replicate P.l.length (Never) := by rw [hvf]; rfl
        have y2 : vf 2 = List.replicate P.l.length (0) := by rw [hvf]; rfl
        have y3 : vf 3 = List.replicate P.l.length (0) := by rw [hvf]; rfl
        have y4 : vf 4 = List.replicate P.l.length (-Never) := by rw [hvf]; rfl
        have y5 : vf 5 = List.replicate P.l.length (-Never) := by rw [hvf]; rfl
        have y6 : vf 6 = List.replicate P.l.length (-Never) := by rw [hvf]; rfl
        have y7 : vf 7 = List.replicate P.l.length (Never) := by rw [hvf]; rfl
        have y8 : vf 8 = List.replicate P.l.length (Never) := by rw [hvf]; rfl
        obtain ⟨E, hE⟩ : ∃ E, E = F8.push (.cells (wkC P (.slice none 0 0) rf) false) := ⟨_, rfl⟩
        have hE' := hE
        unfold wkC rowS1 at hE'
        rw [x0, x1, x2, x3, x4, x5, x6, x7, x8] at hE'
        rw [← hE']
        have kE : Ext' F8 E := by rw [hE]; exact Ext'.push _ _
        have gX : E.get F8.n = some (.cells (wkC P (.slice none 0 0) rf) false) := by rw [hE]; exact get_push_new
        have nE : E.n = F8.n + 1 := by rw [hE]; rfl
        have k18 : Ext' A1 F8 := kf0.trans (kf1.trans (kf2.trans (kf3.trans (kf4.trans (kf5.trans (kf6.trans (kf7.trans kf8)))))))
        have k1E := k18.trans kE
        have hgx : ∀ x' o k n c, P.sl = .slice (some ⟨x', o, k⟩) n c → x' < A.n := by
          intro x' o k nn c e
          rcases (groundOf_cases hgr).2 with ⟨e1, e2⟩ | ⟨x'', cap', ro', e1, e2⟩
          · rw [e1] at e; cases e
          · rw [e1] at e
            cases e
            exact Hp.lt_of_get e2
        have n8 : A.n + 3 ≤ F8.n := by have := k18.1; omega
        refine loop28d (P := P) (X := F8.n) (r := rf) (A0 := E) (b4 := A.n) (b5 := A.n + 1) hok.ph hok.pl (by omega) (by omega) (by omega) (by omega) (k1E.get c4) (k1E.get c5) (groundOf_mono (groundOf_mono hgr kA.2) k1E.2) (fun x' o k nn c e => by have := hgx x' o k nn c e; omega) (fun T2 A2 sv2 hacc2 gX2 old2 n2 hT2 => ?_) P.l.length 0 _ E (.slice none 0 0) (by omega) AccS.nil gX (fun _ _ _ => rfl) (Nat.le_refl _) (fun _ _ => rfl) ?_ ?_ ?_ ?_ ?_
        · have hv2 := hacc2
          rcases hacc2 with ⟨q1, q2⟩ | ⟨rd, m, q1, q2, qn, qq, qp⟩
          · have e := congrArg List.length q2
            rw [ints_length] at e
            have e2 : (depL P).length = P.l.length * 2 := depI_len
            have e3 : (depL P).length = 0 := e
            omega
          have em : m = P.l.length := by
            have e2 : (depL P).length = P.l.length * 2 := depI_len
            rw [ints_length] at qq
            omega
          subst em
          have z0 : A2.get (rf 0) = some (.cells (ints (vf 0)) false) := by rw [x0, y0, old2 r0 (by omega) (by omega)]; exact kE.get (kf8.get (kf7.get (kf6.get (kf5.get (kf4.get (kf3.get (kf2.get (kf1.get g0))))))))
          have z1 : A2.get (rf 1) = some (.cells (ints (vf 1)) false) := by rw [x1, y1, old2 r1 (by omega) (by omega)]; exact kE.get (kf8.get (kf7.get (kf6.get (kf5.get (kf4.get (kf3.get (kf2.get g1)))))))
          have z2 : A2.get (rf 2) = some (.cells (ints (vf 2)) false) := by rw [x2, y2, old2 r2 (by omega) (by omega)]; exact kE.get (kf8.get (kf7.get (kf6.get (kf5.get (kf4.get (kf3.get g2))))))
          have z3 : A2.get (rf 3) = some (.cells (ints (vf 3)) false) := by rw [x3, y3, old2 r3 (by omega) (by omega)]; exact kE.get (kf8.get (kf7.get (kf6.get (kf5.get (kf4.get g3)))))
          have z4 : A2.get (rf 4) = some (.cells (ints (vf 4)) false) := by rw [x4, y4, old2 r4 (by omega) (by omega)]; exact kE.get (kf8.get (kf7.get (kf6.get (kf5.get g4))))
          have z5 : A2.get (rf 5) = some (.cells (ints (vf 5)) false) := by rw [x5, y5, old2 r5 (by omega) (by omega)]; exact kE.get (kf8.get (kf7.get (kf6.get g5)))
          have z6 : A2.get (rf 6) = some (.cells (ints (vf 6)) false) := by rw [x6, y6, old2 r6 (by omega) (by omega)]; exact kE.get (kf8.get (kf7.get g6))
          have z7 : A2.get (rf 7) = some (.cells (ints (vf 7)) false) := by rw [x7, y7, old2 r7 (by omega) (by omega)]; exact kE.get (kf8.get g7)
          have z8 : A2.get (rf 8) = some (.cells (ints (vf 8)) false) := by rw [x8, y8, old2 r8 (by omega) (by omega)]; exact kE.get g8
          have lt : ∀ i, i < 9 → rf i < F8.n ∧ A.n ≤ rf i := by
            intro i hi
            have : i = 0 ∨ i = 1 ∨ i = 2 ∨ i = 3 ∨ i = 4 ∨ i = 5 ∨ i = 6 ∨ i = 7 ∨ i = 8 := by omega
            rcases this with rfl | rfl | rfl | rfl | rfl | rfl | rfl | rfl | rfl
            · rw [x0]; omega
            · rw [x1]; omega
            · rw [x2]; omega
            · rw [x3]; omega
            · rw [x4]; omega
            · rw [x5]; omega
            · rw [x6]; omega
            · rw [x7]; omega
            · rw [x8]; omega
          have hW : Work A2 P F8.n rd rf vf := by
            refine ⟨?_, q2, fun i hi => ?_, fun i hi => ?_, ?_, fun i j hi hj hij => ?_, fun i hi => ?_, fun i x o k nn c hi e => ?_⟩
            · rw [gX2, q1]; rfl
            · have : i = 0 ∨ i = 1 ∨ i = 2 ∨ i = 3 ∨ i = 4 ∨ i = 5 ∨ i = 6 ∨ i = 7 ∨ i = 8 := by omega
              rcases this with rfl | rfl | rfl | rfl | rfl | rfl | rfl | rfl | rfl
              · exact z0
              · exact z1
              · exact z2
              · exact z3
              · exact z4
              · exact z5
              · exact z6
              · exact z7
              · exact z8
            · have : i = 0 ∨ i = 1 ∨ i = 2 ∨ i = 3 ∨ i = 4 ∨ i = 5 ∨ i = 6 ∨ i = 7 ∨ i = 8 := by omega
              rcases this with rfl | rfl | rfl | rfl | rfl | rfl | rfl | rfl | rfl
              · rw [y0]; simp
              · rw [y1]; simp
              · rw [y2]; simp
              · rw [y3]; simp
              · rw [y4]; simp
              · rw [y5]; simp
              · rw [y6]; simp
              · rw [y7]; simp
              · rw [y8]; simp
            · have hgE := groundOf_mono (groundOf_mono hgr kA.2) k1E.2
              rcases (groundOf_cases hgE).2 with ⟨e1, e2⟩ | ⟨x', cap, ro', e1, e2⟩
              · rw [e1, e2]; rfl
              · have hlt := hgx _ _ _ _ _ e1
                have e3 := (old2 x' (by omega) (by omega)).trans e2
                unfold groundOf at hgE ⊢
                rw [e1] at hgE ⊢
                simp only [e2] at hgE
                simp only [e3]
                exact hgE
            · have hi' : i = 0 ∨ i = 1 ∨ i = 2 ∨ i = 3 ∨ i = 4 ∨ i = 5 ∨ i = 6 ∨ i = 7 ∨ i = 8 := by omega
              have hj' : j = 0 ∨ j = 1 ∨ j = 2 ∨ j = 3 ∨ j = 4 ∨ j = 5 ∨ j = 6 ∨ j = 7 ∨ j = 8 := by omega
              rcases hi' with rfl | rfl | rfl | rfl | rfl | rfl | rfl | rfl | rfl <;> rcases hj' with rfl | rfl | rfl | rfl | rfl | rfl | rfl | rfl | rfl <;> first | exact absurd rfl hij | (simp only [x0, x1, x2, x3, x4, x5, x6, x7, x8]; omega)
            · have := lt i hi
              omega
            · have := lt i hi
              have := hgx _ _ _ _ _ e
              omega
          have u3 := hT2 3 (by omega)
          have u12 := hT2 12 (by omega)
          have u13 := hT2 13 (by omega)
          simp [q3] at u3
          simp at u12 u13
          have old3 : ∀ y, y < A.n → A2.get y = A.get y := fun y hy => by rw [old2 y (by omega) (by omega), k1E.2 y (by omega), kA.2 y hy]
          have hr2 := hr.mono old3
          have hne : ∀ x o k m c j, j < 9 → sls = .slice (some ⟨x, o, k⟩) m c → x ≠ rf j := by
            intro x o k m c j hj e
            rcases hr.2 with ⟨e1, _⟩ | ⟨b, c', ro', e1, e2⟩
            · rw [e1] at e; cases e
            · rw [e1] at e
              cases e
              have := Hp.lt_of_get e2
              have := lt j hj
              omega
          have hgr9 : ∀ i, i < 9 → g ≤ rf i := fun i hi => by have := lt i hi; omega
          simp (disch := as_aux_lemma => first | omega | simp only [hDs] <;> omega | simp [isCell]) [hRs, takeMarks, resA, resAll, resOne, Value.cells, u13, u3]
          refine w52 (v := vf) hok.ph hok.pl hok.zh hok.zl hn hr2 hne hgr9 (by omega) ⟨y0, y1, y2, y3⟩ hW fun A3 v3 k3 hW3 w0 w3 w1 w2 wj => ?_
          simp (disch := as_aux_lemma => first | omega | simp only [hDs] <;> omega | simp [isCell]) [hRs, takeMarks, resA, resAll, resOne, Value.cells, u13]
          have n3 := k3.1
          refine w53 (v := v3) hok.ph hok.pl hok.zh hok.zl hfin.fh hfin.fl hgr9 (by omega) hW3 w0 w3 w1 w2 ((wj 4 (by omega)).trans y4) ((wj 5 (by omega)).trans y5) ((wj 6 (by omega)).trans y6) ((wj 7 (by omega)).trans y7) ((wj 8 (by omega)).trans y8) fun A4 v4 k4 hW4 hd4 => ?_
          have n4 := k4.1
          simp (disch := as_aux_lemma => first | omega | simp only [hDs] <;> omega | simp [isCell]) [hRs, takeMarks, resA, resAll, resOne, Value.cells, u13, u12]
          refine loop28o (A0 := A4) (v := v4) hok hfin hW4 hd4 (by omega) (fun T5 A5 sv5 hacc5 k5 t15 => ?_) P.l.length 0 _ A4 (.slice none 0 0) (by omega) AccS.nil (Ext'.refl _) ?_ ?_ ?_ ?_
          · simp (disch := as_aux_lemma => first | omega | simp only [hDs] <;> omega | simp [isCell]) [hRs, takeMarks, resA, resAll, resOne, Value.cells, t15]
            have := hQ A5 sv5 ⟨by have := k5.1; omega, fun y hy => by
              rw [k5.2 y (by omega), k4.2 y (by omega) (by rintro ⟨j, hj, e⟩; have := lt j hj; omega), k3.2 y (by omega) (by rintro ⟨j, hj, e⟩; have := lt j hj; omega), old3 y hy]⟩ (by
              unfold sprRes
              rw [if_pos h0]
              exact hacc5.weaken (by omega))
            rw [h0] at this
            exact this
          all_goals simp [ptrV, u12, u13]
        all_goals simp [ptrV, q4, q5]
      · simp (disch := as_aux_lemma => first | omega | simp only [hDs] <;> omega | simp [isCell]) [hRs, takeMarks, resA, resAll, resOne, Value.cells, h8, h9]
        exact bad A1 _ kA he h3
      all_goals simp [ptrV]
  · simp (disch := as_aux_lemma => first | omega | simp only [hDs] <;> omega | simp [isCell]) [hRs, takeMarks, resA, resAll, resOne, Value.cells, h1]
    exact bad A1 _ (kB.trans k1) (by unfold sprE; rw [if_neg h1]) h1
end
end Go.Ab.Wave
namespace Go.Ab.Wave
open Go Go.Ab
def body20b : ACode := (.seq
 (.seq
 (.ops [
oM 62 14,
oM 63 3,
oP 64 (.len (.t 63)),
oB 65 .lss 62 64])
 (.cond (.t 65)
 .skip
 (.exit 2)))
 (.seq
 (.block 3
 (.seq
 (.ops [
oD 69 4 4,
oD 70 5 2,
oD 71 6 6,
oM 72 3,
oM 73 14,
oI 74 72 73 5,
oD 75 74 5,
oA 76 17 [.t 69, .t 70, .t 71, .t 75] false,
oM 68 76,
oX 77 68 0,
oX 78 68 1,
oM 15 77,
oM 16 78])
 (.seq
 (.ops [
oP 17 (.move (oK 0))])
 (.block 4
 (.loop
 body20c)))))
 (.ops [
oM 66 14,
oC 67 .add 66 1,
oM 14 67])))
def putL (l : List Int) (o : Nat) (ws : List Int) : List Int := l.take o ++ ws ++ l.drop (o + ws.length)
theorem putL_len {l ws : List Int} {o : Nat} (h : o + ws.length ≤ l.length) : (putL l o ws).length = l.length := by unfold putL; simp; omega
theorem putL_get {l ws : List Int} {o j : Nat} (h : o + ws.length ≤ l.length) : gi (putL l o ws) j = if o ≤ j ∧ j < o + ws.length then gi ws (j - o) else gi l j := by
  unfold putL gi
  simp only [List.getD_eq_getElem?_getD]
  by_cases h1 : j < o
  · rw [if_neg (by omega), List.getElem?_append_left (by simp; omega), List.getElem?_append_left (by simp; omega), List.getElem?_take_of_lt h1]
  · by_cases h2 : j < o + ws.length
    · rw [if_pos ⟨by omega, h2⟩, List.getElem?_append_left (by simp; omega), List.getElem?_append_right (by simp; omega)]
      simp [show min o l.length = o by omega]
    · rw [if_neg (by omega), List.getElem?_append_right (by simp; omega)]
      simp [show min o l.length = o by omega]
      rw [show o + ws.length + (j - (o + ws.length)) = j by omega]
theorem setRange_row {l ws : List Int} {o : Nat} : setRange (ints l) o (ints ws) = ints (putL l o ws) := by
  unfold setRange putL ints
  simp
theorem storeB_eight {g x o : Nat} {A : Hp} {l : List Int} {a b c d e f p q : Int} (h : o + 8 ≤ l.length) (hg : g ≤ x) :
    storeB (some (.cells (ints l) false)) g A x o [.int .i64 a, .int .i64 b, .int .i64 c, .int .i64 d, .int .i64 e, .int .i64 f, .int .i64 p, .int .i64 q] 8 = some (undef, A.set x (some (.cells (ints (putL l o [a, b, c, d, e, f, p, q])) false))) := by
  have := storeB_cells (A := A) (g := g) (k := x) (o := o) (size := 8) (cs := ints l) (vs := ints [a, b, c, d, e, f, p, q]) rfl hg (by rw [ints_length]; exact h) (ints_isCell _)
  rw [setRange_row] at this
  exact this
theorem mixL_put {a b : List Int} {n i : Nat} (hi : i < n) :
    putL (mixL a b (n * 8) i) (i * 8) [joinAt a b (i * 8), joinAt a b (i * 8 + 1), joinAt a b (i * 8 + 2), joinAt a b (i * 8 + 3), joinAt a b (i * 8 + 4), joinAt a b (i * 8 + 5), joinAt a b (i * 8 + 6), joinAt a b (i * 8 + 7)] = mixL a b (n * 8) (i + 1) := by
  have hl : (mixL a b (n * 8) i).length = n * 8 := mixL_len
  refine gi_ext (n := n * 8) (by rw [putL_len (by rw [hl]; simp; omega), hl]) mixL_len fun j hj => ?_
  rw [putL_get (by rw [hl]; simp; omega), mixL_get hj, mixL_get hj]
  simp only [List.length_cons, List.length_nil]
  by_cases h1 : j < i * 8
  · rw [if_neg (by omega), if_pos h1, if_pos (by omega)]
  · by_cases h2 : i * 8 + 8 ≤ j
    · rw [if_neg (by omega), if_neg h1, if_neg (by omega)]
    · rw [if_pos (by omega), if_pos (by omega)]
      obtain ⟨r, rfl⟩ : ∃ r, j = i * 8 + r := ⟨j - i * 8, by omega⟩
      rw [show i * 8 + r - i * 8 = r by omega]
      have : r = 0 ∨ r = 1 ∨ r = 2 ∨ r = 3 ∨ r = 4 ∨ r = 5 ∨ r = 6 ∨ r = 7 := by omega
      rcases this with rfl | rfl | rfl | rfl | rfl | rfl | rfl | rfl <;> rfl
theorem stE_of {P : Par} {zs : List Int} {n : Nat} (h : StartOk P zs n) : ∀ {k i : Nat}, i + k ≤ n → stE P zs i k = 0
  | 0, _, _ => rfl
  | k + 1, i, hi => by
    have c := h.cell i (by omega)
    have t := h.time i (by omega)
    have r := h.rise i (by omega)
    have hb : stBad P zs i = 0 := by
      unfold stBad
      rw [if_neg (by omega), if_pos ⟨inS_iff.2 t, inS_iff.2 r⟩]
    unfold stE
    rw [if_pos hb]
    exact stE_of h (by omega)
theorem src_sprE {P : Par} {S : Src} (hp : prepE P = 0) (hs : P.l.length ≤ 40) (he : S.err P.l.length = 0) : sprE P (srcZ P S) (srcC P S).length = 0 := by
  have := srcC_len (P := P) (S := S)
  unfold sprE
  rw [if_pos hp, if_neg (by omega)]
  exact stE_of (src_ok he) (by omega)
section
variable {g : Nat} {A : Hp} {V : Value → Hp → Prop} {P : Par} {S : Src}
theorem w48 {a b c d : Int} (hg : g ≤ A.n) (hQ : ∀ A', Ext' A A' → V (spn (min a c) (max b d)) A') : WF AP KL g 48 [spn a b, spn c d] A V := by
  rw [WF_body rfl (show AP 48 = some F48 from rfl)]
  simp (disch := as_aux_lemma => first | omega | simp only [hDs] <;> omega | simp [isCell]) [hRs, takeMarks, resA, resAll, resOne, Value.cells, spn, storeB_cells, setRange_all, fillA, setRange, set_push_eq]
  exact hQ _ (((Ext'.push _ _).trans (Ext'.push _ _)).trans (Ext'.push _ _))
theorem w12 (hs : P.l.length ≤ 40) (hgr : groundOf A P.sl = some P.l) (h0 : checkG P.w P.h P.s P.l = 0)
    (hQ : S.err P.l.length = 0 → ∀ A' sv, Ext' A A' → RdS A' 5 (srcC P S).length (ints (srcZ P S)) sv → V (.tuple ⟨[sv, .int .i64 0]⟩) A')
    (hE : S.err P.l.length ≠ 0 → V (.tuple ⟨[.slice none 0 0, .int .i64 (S.err P.l.length)]⟩) A) : WF AP KL g 12 [gridV P.w P.h P.s P.sl, S.v] A V := by
  have hst : startErr P.w P.h P.s P.l S.k S.c S.cl S.lo S.hi = S.err P.l.length := by unfold startErr; rw [if_pos h0]; rfl
  rw [WF_spec (show KL 12 = some S12 from rfl)]
  have := S12_eq (g := g) (A := A) (sl := P.sl) (w := P.w) (h := P.h) (s := P.s) (k := S.k) (c := S.c) (cl := S.cl) (lo := S.lo) (hi := S.hi) hgr (by omega)
  rw [hst] at this
  have e : S12 g [gridV P.w P.h P.s P.sl, S.v] A = _ := this
  rw [e]
  by_cases he : S.err P.l.length = 0
  · have hc : startCells P.w P.h P.s P.l S.k S.c S.cl S.lo S.hi = ints (srcZ P S) := by
      unfold startCells
      rw [if_pos (by rw [hst]; exact he), nearRows_flat]
      rfl
    rw [hc, he]
    have hlen : (ints (srcZ P S)).length = (srcC P S).length * 5 := by rw [ints_length]; exact flat5_len
    have ha := accV_acc (A := A) (N := 0) (k := 5) (cs := ints (srcZ P S)) (by decide) ⟨_, by rw [hlen, Nat.mul_comm]⟩ (Nat.zero_le _)
    exact hQ he _ _ ⟨outHp_n, fun x hx => outHp_old hx⟩ (ha.rd hlen (by decide))
  · have hc : startCells P.w P.h P.s P.l S.k S.c S.cl S.lo S.hi = [] := by
      unfold startCells
      rw [if_neg (by rw [hst]; exact he)]
    rw [hc]
    exact hE he
theorem w17 (hs : P.l.length ≤ 40) (hgr : groundOf A P.sl = some P.l) (hg : g ≤ A.n) (hF : oneE P S = 0 → SprFin P (srcZ P S) (srcC P S).length)
    (hQ : ∀ A' sv, Ext' A A' → AccS A.n A' 8 (ints (oneRes P S)) sv → V (.tuple ⟨[sv, .int .i64 (oneE P S)]⟩) A') :
    WF AP KL g 17 [gridV P.w P.h P.s P.sl, spn P.slo P.shi, modelV P.k0 P.k1 P.l0 P.l1 P.o0 P.o1, S.v] A V := by
  obtain ⟨B, hB⟩ : ∃ B, B = (((A.push (.cells [.int .i64 P.w, .int .i64 P.h, .int .i64 P.s, P.sl] false)).push (.cells [.int .i64 P.slo, .int .i64 P.shi] false)).push (.cells [.int .i64 P.k0, .int .i64 P.k1, .int .i64 P.l0, .int .i64 P.l1, .int .i64 P.o0, .int .i64 P.o1] false)).push (.cells [.int .i64 S.k, .int .i64 S.c, .int .i64 S.cl, .int .i64 S.lo, .int .i64 S.hi] false) := ⟨_, rfl⟩
  have kB : Ext' A B := by rw [hB]; exact (((Ext'.push _ _).trans (Ext'.push _ _)).trans (Ext'.push _ _)).trans (Ext'.push _ _)
  have b4 : B.get A.n = some (.cells [.int .i64 P.w, .int .i64 P.h, .int .i64 P.s, P.sl] false) := by rw [hB, get_push_old (by rw [push3_n]; omega)]; exact push3_a
  have b5 : B.get (A.n + 1) = some (.cells [.int .i64 P.slo, .int .i64 P.shi] false) := by rw [hB, get_push_old (by rw [push3_n]; omega)]; exact push3_b
  have b6 : B.get (A.n + 2) = some (.cells [.int .i64 P.k0, .int .i64 P.k1, .int .i64 P.l0, .int .i64 P.l1, .int .i64 P.o0, .int .i64 P.o1] false) := by rw [hB, get_push_old (by rw [push3_n]; omega)]; exact push3_c
  have b7 : B.get (A.n + 3) = some (.cells [.int .i64 S.k, .int .i64 S.c, .int .i64 S.cl, .int .i64 S.lo, .int .i64 S.hi] false) := by rw [hB]; exact get_push_new
  have nB : B.n = A.n + 4 := by rw [hB]; rfl
  have hgB := groundOf_mono hgr kB.2
  have bad : ∀ A' e, Ext' A A' → oneE P S = e → e ≠ 0 → V (.tuple ⟨[.slice none 0 0, .int .i64 e]⟩) A' := by
    intro A' e k h h0
    have := hQ A' (.slice none 0 0) k (.inl ⟨rfl, by unfold oneRes; rw [if_neg (by rw [h]; exact h0)]; rfl⟩)
    rw [h] at this
    exact this
  rw [WF_body rfl (show AP 17 = some F17 from rfl)]
  simp (disch := as_aux_lemma => first | omega | simp only [hDs] <;> omega | simp [isCell]) [hRs, takeMarks, resA, resAll, resOne, Value.cells, gridV, spn, modelV, J, Src.v, srcV]
  rw [← hB]
  refine w46 hgB (by omega) fun A1 k1 => ?_
  have c4 := k1.get b4
  have c5 := k1.get b5
  have c6 := k1.get b6
  have c7 := k1.get b7
  have n1 := k1.1
  have hg1 := groundOf_mono hgB k1.2
  by_cases h1 : prepE P = 0
  · have he : oneE P S = S.err P.l.length := by unfold oneE; rw [if_pos h1]
    simp (disch := as_aux_lemma => first | omega | simp only [hDs] <;> omega | simp [isCell]) [hRs, takeMarks, resA, resAll, resOne, Value.cells, h1, c4, c7]
    refine w12 hs hg1 (prep_chk h1) (fun h2 A2 sv k2 hr => ?_) (fun h2 => ?_)
    · have h0 : oneE P S = 0 := by rw [he]; exact h2
      have d4 := k2.get c4
      have d5 := k2.get c5
      have d6 := k2.get c6
      have n2 := k2.1
      have hl := srcC_len (P := P) (S := S)
      have hE := src_sprE h1 hs h2
      simp (disch := as_aux_lemma => first | omega | simp only [hDs] <;> omega | simp [isCell]) [hRs, takeMarks, resA, resAll, resOne, Value.cells, d4, d5, d6]
      refine w28 (P := P) (zs := srcZ P S) (n := (srcC P S).length) hs (groundOf_mono hg1 k2.2) (by omega) hr (by omega) (fun _ => hF h0) fun A3 sv3 k3 hacc => ?_
      simp (disch := as_aux_lemma => first | omega | simp only [hDs] <;> omega | simp [isCell]) [hRs, takeMarks, resA, resAll, resOne, Value.cells, hE]
      have kA := (kB.trans k1).trans k2
      have := hQ A3 sv3 (kA.trans k3) (by
        unfold oneRes
        rw [if_pos h0]
        unfold sprRes at hacc
        rw [if_pos hE] at hacc
        exact hacc.weaken kA.1)
      rw [h0] at this
      exact this
    · simp (disch := as_aux_lemma => first | omega | simp only [hDs] <;> omega | simp [isCell]) [hRs, takeMarks, resA, resAll, resOne, Value.cells, h2]
      exact bad A1 _ (kB.trans k1) he h2
  · simp (disch := as_aux_lemma => first | omega | simp only [hDs] <;> omega | simp [isCell]) [hRs, takeMarks, resA, resAll, resOne, Value.cells, h1]
    exact bad A1 _ (kB.trans k1) (by unfold oneE; rw [if_neg h1]) h1
end
section
variable {g : Nat} {D : List Nat} {rd : Option Nat} {Q : Ex → St → Prop} {P : Par} {ss : List Int} {n : Nat} {sls : Value}
theorem loop20a {A0 : Hp} {b4 : Nat} {T0 : List Value} (hn : n < 1000000) (hgr : groundOf A0 P.sl = some P.l)
    (hb : A0.get b4 = some (.cells [.int .i64 P.w, .int .i64 P.h, .int .i64 P.s, P.sl] false)) (hr : RdS A0 5 n (ints ss) sls)
    (hQ : ∀ T', srcsE P ss 0 n = 0 → (∀ i, i < 10 → tget T' i = tget T0 i) → Q (.exit 0) ⟨T', D, A0⟩)
    (hE : ∀ T', srcsE P ss 0 n ≠ 0 → tget T' 8 = .slice none 0 0 → tget T' 9 = .int .i64 (srcsE P ss 0 n) → Q .ret ⟨T', D, A0⟩) :
    ∀ (k i : Nat) (T : List Value), i + k = n → srcsE P ss 0 n = srcsE P ss i k → (∀ i, i < 10 → tget T i = tget T0 i) → tget T0 4 = ptrV b4 → tget T0 3 = sls → tget T 11 = .int .i64 i → W AP KL g rd (.loop body20a) ⟨T, D, A0⟩ Q := by
  intro k
  have hzl : ss.length = n * 5 := by have := hr.1; rwa [ints_length] at this
  have hlen := hr.len
  induction k with
  | zero =>
    intro i T hi he hT t4 t3' t11
    have : i = n := by omega
    subst this
    have t3 := (hT 3 (by omega)).trans t3'
    rw [W_loop]
    simp (disch := as_aux_lemma => first | omega | simp only [hDs] <;> omega | simp [isCell]) [hRs, takeMarks, resA, resAll, resOne, Value.cells, body20a, t3, hlen, t11]
    refine hQ _ (by rw [he]; rfl) fun j hj => ?_
    simp only [tget_tset]
    repeat (rw [if_neg (by omega)])
    exact hT j hj
  | succ k ih =>
    intro i T hi he hT t4' t3' t11
    have t4 := (hT 4 (by omega)).trans t4'
    have t3 := (hT 3 (by omega)).trans t3'
    obtain ⟨y, cap, ro, hsl, hy⟩ := hr.at (i := i) (by omega)
    have hyn := Hp.lt_of_get hy
    have ee : (srcAt ss i).err P.l.length = srcErr P.l.length (gi ss (i * 5)) (gi ss (i * 5 + 1)) (gi ss (i * 5 + 2)) (gi ss (i * 5 + 3)) (gi ss (i * 5 + 4)) := rfl
    rw [hsl] at t3 hlen
    rw [W_loop]
    by_cases h0 : srcErr P.l.length (gi ss (i * 5)) (gi ss (i * 5 + 1)) (gi ss (i * 5 + 2)) (gi ss (i * 5 + 3)) (gi ss (i * 5 + 4)) = 0
    · simp (disch := as_aux_lemma => first | omega | simp only [hDs] <;> omega | simp [isCell]) [hRs, takeMarks, resA, resAll, resOne, Value.cells, body20a, t3, hlen, t11, show (i : Int) < (n : Int) by omega, idxSA_ok, hy, ints_5, t4, ptrV, hb, WF_spec (show KL 41 = some S38 from rfl), S38_eq hgr, h0]
      refine ih (i + 1) _ (by omega) ?_ ?_ t4' t3' ?_
      · rw [he]; show (if (srcAt ss i).err P.l.length = 0 then _ else _) = _; rw [ee, if_pos h0]
      · intro j hj
        simp only [tget_tset]
        repeat (rw [if_neg (by omega)])
        exact hT j hj
      · simp [wrId (n := (i : Int) + 1) (by omega) (by omega)]
    · simp (disch := as_aux_lemma => first | omega | simp only [hDs] <;> omega | simp [isCell]) [hRs, takeMarks, resA, resAll, resOne, Value.cells, body20a, t3, hlen, t11, show (i : Int) < (n : Int) by omega, idxSA_ok, hy, ints_5, t4, ptrV, hb, WF_spec (show KL 41 = some S38 from rfl), S38_eq hgr, h0]
      have e : srcsE P ss 0 n = (srcAt ss i).err P.l.length := by rw [he]; unfold srcsE; rw [ee, if_neg h0]
      refine hE _ (by rw [e, ee]; exact h0) ?_ ?_
      · simp
      · simp [e, ee]
theorem loop20c {A0 : Hp} {a b : List Int} {m x y : Nat} {T0 : List Value} (hn : m < 1000000) (ha : a.length = m * 8) (hb : b.length = m * 8) (hxy : x ≠ y) (hg : g ≤ x)
    (hQ : ∀ T' A', Keep (fun z => z = x) A0 A' → A'.get x = some (.cells (ints (joinL a b (m * 8))) false) → (∀ i, i < 17 → tget T' i = tget T0 i) → Q (.exit 4) ⟨T', D, A'⟩) :
    ∀ (k i : Nat) (T : List Value) (A : Hp), i + k = m → Keep (fun z => z = x) A0 A → A.get x = some (.cells (ints (mixL a b (m * 8) i)) false) → A.get y = some (.cells (ints b) false) → (∀ i, i < 17 → tget T i = tget T0 i) →
      tget T0 12 = .slice (some ⟨x, 0, some 8⟩) m m → tget T0 15 = .slice (some ⟨y, 0, some 8⟩) m m → tget T 17 = .int .i64 i → W AP KL g rd (.loop body20c) ⟨T, D, A⟩ Q := by
  intro k
  induction k with
  | zero =>
    intro i T A hi hk hx hy hT t12' t15' t17
    have : i = m := by omega
    subst this
    have t12 := (hT 12 (by omega)).trans t12'
    rw [W_loop]
    simp (disch := as_aux_lemma => first | omega | simp only [hDs] <;> omega | simp [isCell]) [hRs, takeMarks, resA, resAll, resOne, Value.cells, body20c, t12, t17]
    refine hQ _ A hk (by rw [hx, mixL_all]) fun j hj => ?_
    simp only [tget_tset]
    repeat (rw [if_neg (by omega)])
    exact hT j hj
  | succ k ih =>
    intro i T A hi hk hx hy hT t12' t15' t17
    have t12 := (hT 12 (by omega)).trans t12'
    have t15 := (hT 15 (by omega)).trans t15'
    have hin : i < m := by omega
    have hxn := Hp.lt_of_get hx
    have hyn := Hp.lt_of_get hy
    have hml : (mixL a b (m * 8) i).length = m * 8 := mixL_len
    have mg : ∀ r, r < 8 → gi (mixL a b (m * 8) i) (i * 8 + r) = gi a (i * 8 + r) := fun r hr => by rw [mixL_get (by omega), if_neg (by omega)]
    have m0 : gi (mixL a b (m * 8) i) (i * 8) = gi a (i * 8) := mg 0 (by omega)
    have m1 := mg 1 (by omega)
    have m2 := mg 2 (by omega)
    have m3 : gi (mixL a b (m * 8) i) (i * 8 + 2 + 1) = gi a (i * 8 + 3) := mg 3 (by omega)
    have m4 := mg 4 (by omega)
    have m5 : gi (mixL a b (m * 8) i) (i * 8 + 4 + 1) = gi a (i * 8 + 5) := mg 5 (by omega)
    have m6 := mg 6 (by omega)
    have m7 : gi (mixL a b (m * 8) i) (i * 8 + 6 + 1) = gi a (i * 8 + 7) := mg 7 (by omega)
    rw [W_loop]
    simp (disch := as_aux_lemma => first | omega | simp only [hDs] <;> omega | simp [isCell]) [hRs, takeMarks, resA, resAll, resOne, Value.cells, body20c, t12, t15, t17, show (i : Int) < (m : Int) by omega, idxSA_ok, hx, hy, ints_two, m0, m1]
    refine w48 (by omega) fun A1 k1 => ?_
    have gx1 := k1.get hx
    have gy1 := k1.get hy
    simp (disch := as_aux_lemma => first | omega | simp only [hDs] <;> omega | simp [isCell]) [hRs, takeMarks, resA, resAll, resOne, Value.cells, t12, t15, t17, show (i : Int) < (m : Int) by omega, idxSA_ok, gx1, gy1, ints_two, m2, m3]
    refine w48 (by have := k1.1; omega) fun A2 k2 => ?_
    have gx2 := k2.get gx1
    have gy2 := k2.get gy1
    simp (disch := as_aux_lemma => first | omega | simp only [hDs] <;> omega | simp [isCell]) [hRs, takeMarks, resA, resAll, resOne, Value.cells, t12, t15, t17, show (i : Int) < (m : Int) by omega, idxSA_ok, gx2, gy2, ints_two, m4, m5]
    refine w48 (by have := k1.1; have := k2.1; omega) fun A3 k3 => ?_
    have gx3 := k3.get gx2
    have gy3 := k3.get gy2
    simp (disch := as_aux_lemma => first | omega | simp only [hDs] <;> omega | simp [isCell]) [hRs, takeMarks, resA, resAll, resOne, Value.cells, t12, t15, t17, show (i : Int) < (m : Int) by omega, idxSA_ok, gx3, gy3, ints_two, m6, m7]
    refine w48 (by have := k1.1; have := k2.1; have := k3.1; omega) fun A4 k4 => ?_
    have gx4 := k4.get gx3
    have gy4 := k4.get gy3
    have hx4 := Hp.lt_of_get gx4
    simp (disch := as_aux_lemma => first | omega | simp only [hDs] <;> omega | simp [isCell]) [hRs, takeMarks, resA, resAll, resOne, Value.cells, t12, t17, show (i : Int) < (m : Int) by omega, idxSA_ok, fillA, setRange, spn, gx4, storeB_eight]
    have e := mixL_put (a := a) (b := b) hin
    have e0 : joinAt a b (i * 8) = min (gi a (i * 8)) (gi b (i * 8)) := joinAt_even (r := 0) (by omega)
    have e1 : joinAt a b (i * 8 + 1) = max (gi a (i * 8 + 1)) (gi b (i * 8 + 1)) := joinAt_odd (by omega)
    have e2 : joinAt a b (i * 8 + 2) = min (gi a (i * 8 + 2)) (gi b (i * 8 + 2)) := joinAt_even (by omega)
    have e3 : joinAt a b (i * 8 + 3) = max (gi a (i * 8 + 3)) (gi b (i * 8 + 3)) := joinAt_odd (by omega)
    have e4 : joinAt a b (i * 8 + 4) = min (gi a (i * 8 + 4)) (gi b (i * 8 + 4)) := joinAt_even (by omega)
    have e5 : joinAt a b (i * 8 + 5) = max (gi a (i * 8 + 5)) (gi b (i * 8 + 5)) := joinAt_odd (by omega)
    have e6 : joinAt a b (i * 8 + 6) = min (gi a (i * 8 + 6)) (gi b (i * 8 + 6)) := joinAt_even (by omega)
    have e7 : joinAt a b (i * 8 + 7) = max (gi a (i * 8 + 7)) (gi b (i * 8 + 7)) := joinAt_odd (by omega)
    rw [e0, e1, e2, e3, e4, e5, e6, e7] at e
    have kA : Ext' A A4 := ((k1.trans k2).trans k3).trans k4
    refine ih (i + 1) _ _ (by omega) (Keep.put' (hk.trans (kA.keep _)) hx4 rfl) ((get_set_same gx4).trans (by rw [← e])) ?_ ?_ t12' t15' ?_
    · rw [get_set_ne hx4 (fun h => hxy h.symm)]; exact gy4
    · intro j hj
      simp only [tget_tset]
      repeat (rw [if_neg (by omega)])
      exact hT j hj
    · simp [t17, wrId (n := (i : Int) + 1) (by omega) (by omega)]
end
end Go.Ab.Wave
namespace Go.Ab.Wave
open Go Go.Ab
section
variable {g : Nat} {D : List Nat} {rd : Option Nat} {Q : Ex → St → Prop} {P : Par} {ss : List Int} {n : Nat} {sls : Value}
theorem oneE_src {S : Src} (hp : prepE P = 0) (he : S.err P.l.length = 0) : oneE P S = 0 := by unfold oneE; rw [if_pos hp]; exact he
theorem oneRes_src {S : Src} (hp : prepE P = 0) (he : S.err P.l.length = 0) : oneRes P S = srcB P S := by unfold oneRes; rw [if_pos (oneE_src hp he)]; rfl
theorem AccS.rows8 {N : Nat} {A : Hp} {l : List Int} {m : Nat} {sv : Value} (h : AccS N A 8 (ints l) sv) (hl : l.length = m * 8) (hm : 0 < m) : ∃ x, sv = .slice (some ⟨x, 0, some 8⟩) m m ∧ A.get x = some (.cells (ints l) false) ∧ N ≤ x := by
  rcases h.cases (by decide) with ⟨h1, _⟩ | ⟨b, _, h2, h3, h4⟩
  · have h0 : l.length = 0 := by have := congrArg List.length h1; rwa [ints_length] at this
    omega
  · rw [ints_length, hl, Nat.mul_div_cancel _ (by decide)] at h2
    exact ⟨b, h2, h3, h4⟩
theorem loop20b {A0 : Hp} {b4 b5 b6 x : Nat} {T0 : List Value} (hn : n < 1000000) (hs : P.l.length ≤ 40) (hp : prepE P = 0) (he : ∀ j, j < n → (srcAt ss j).err P.l.length = 0) (hF : ∀ j, j < n → SrcFin P (srcAt ss j))
    (hgr : ∀ A, Keep (fun z => z = x) A0 A → groundOf A P.sl = some P.l) (hg : g ≤ x) (hx0 : x < A0.n) (hr : ∀ A, Keep (fun z => z = x) A0 A → RdS A 5 n (ints ss) sls)
    (hb4 : A0.get b4 = some (.cells [.int .i64 P.w, .int .i64 P.h, .int .i64 P.s, P.sl] false)) (hb5 : A0.get b5 = some (.cells [.int .i64 P.slo, .int .i64 P.shi] false)) (hb6 : A0.get b6 = some (.cells [.int .i64 P.k0, .int .i64 P.k1, .int .i64 P.l0, .int .i64 P.l1, .int .i64 P.o0, .int .i64 P.o1] false))
    (h4 : b4 < x) (h5 : b5 < x) (h6 : b6 < x)
    (q4 : tget T0 4 = ptrV b4) (q5 : tget T0 5 = ptrV b5) (q6 : tget T0 6 = ptrV b6) (q3 : tget T0 3 = sls) (q12 : tget T0 12 = .slice (some ⟨x, 0, some 8⟩) P.l.length P.l.length)
    (hQ : ∀ T' A', Keep (fun z => z = x) A0 A' → A'.get x = some (.cells (ints (waveL P ss (n - 1))) false) → (∀ i, i < 14 → tget T' i = tget T0 i) → Q (.exit 2) ⟨T', D, A'⟩) :
    ∀ (k i : Nat) (T : List Value) (A : Hp), i + 1 + k = n → Keep (fun z => z = x) A0 A → A.get x = some (.cells (ints (waveL P ss i)) false) → (∀ i, i < 14 → tget T i = tget T0 i) → tget T 14 = .int .i64 ((i : Int) + 1) → W AP KL g rd (.loop body20b) ⟨T, D, A⟩ Q := by
  have hzl : ss.length = n * 5 := by have := (hr A0 (Keep.refl _ _)).1; rwa [ints_length] at this
  have hpos : 0 < P.l.length := (prep_ok hp hs).pos
  intro k
  induction k with
  | zero =>
    intro i T A hi hk hx hT t14
    have t3 := (hT 3 (by omega)).trans q3
    have hlen := (hr A hk).len
    rw [W_loop]
    simp (disch := as_aux_lemma => first | omega | simp only [hDs] <;> omega | simp [isCell]) [hRs, takeMarks, resA, resAll, resOne, Value.cells, body20b, t3, t14, hlen, show ¬ ((i : Int) + 1 < n) by omega]
    refine hQ _ A hk (by rw [show n - 1 = i by omega]; exact hx) fun j hj => ?_
    simp only [tget_tset]
    repeat (rw [if_neg (by omega)])
    exact hT j hj
  | succ k ih =>
    intro i T A hi hk hx hT t14
    have t3 := (hT 3 (by omega)).trans q3
    have t4 := (hT 4 (by omega)).trans q4
    have t5 := (hT 5 (by omega)).trans q5
    have t6 := (hT 6 (by omega)).trans q6
    have ko : ∀ z b, z < x → A0.get z = some b → A.get z = some b := fun z b hz h => by rw [hk.2 z (Hp.lt_of_get h) (by omega)]; exact h
    have c4 := ko b4 _ h4 hb4
    have c5 := ko b5 _ h5 hb5
    have c6 := ko b6 _ h6 hb6
    have hgA := hgr A hk
    have hnA := hk.1
    obtain ⟨y, cap, ro, hsl, hy⟩ := (hr A hk).at (i := i + 1) (by omega)
    have hyn := Hp.lt_of_get hy
    have hlen := (hr A hk).len
    obtain ⟨S, hS⟩ : ∃ S, S = srcAt ss (i + 1) := ⟨_, rfl⟩
    have f0 : gi ss ((i + 1) * 5) = S.k := by rw [hS]; rfl
    have f1 : gi ss ((i + 1) * 5 + 1) = S.c := by rw [hS]; rfl
    have f2 : gi ss ((i + 1) * 5 + 2) = S.cl := by rw [hS]; rfl
    have f3 : gi ss ((i + 1) * 5 + 3) = S.lo := by rw [hS]; rfl
    have f4 : gi ss ((i + 1) * 5 + 4) = S.hi := by rw [hS]; rfl
    have hSe : S.err P.l.length = 0 := by rw [hS]; exact he _ (by omega)
    have hto : ((i : Int) + 1).toNat = i + 1 := by omega
    rw [hsl] at t3 hlen
    rw [W_loop]
    simp (disch := as_aux_lemma => first | omega | simp only [hDs] <;> omega | simp [isCell]) [hRs, takeMarks, resA, resAll, resOne, Value.cells, body20b, t3, t14, hlen, show (i : Int) + 1 < n by omega, idxSA_ok, hto, hy, ints_5, f0, f1, f2, f3, f4, t4, t5, t6, ptrV, c4, c5, c6]
    refine w17 (P := P) (S := S) hs hgA (by omega) (fun _ => by rw [hS]; exact (hF _ (by omega)).2) fun A1 sv k1 hacc => ?_
    rw [oneRes_src hp hSe] at hacc
    obtain ⟨z, rfl, gz, hz⟩ := AccS.rows8 hacc (m := P.l.length) bounds_len hpos
    simp (disch := as_aux_lemma => first | omega | simp only [hDs] <;> omega | simp [isCell]) [hRs, takeMarks, resA, resAll, resOne, Value.cells, oneE_src hp hSe]
    have gx1 := k1.get hx
    have hxA := Hp.lt_of_get hx
    refine loop20c (A0 := A1) (a := waveL P ss i) (b := srcB P S) (m := P.l.length) (x := x) (y := z) (T0 := _) (by omega) (waveL_len i) bounds_len (by omega) hg (fun T' A' k3 h3 hT' => ?_) P.l.length 0 _ A1 (by omega) (Keep.refl _ _) (by rw [mixL_zero (waveL_len i)]; exact gx1) gz (fun _ _ => rfl) ?_ ?_ ?_
    · have r14 := hT' 14 (by omega)
      simp [t14] at r14
      simp (disch := as_aux_lemma => first | omega | simp only [hDs] <;> omega | simp [isCell]) [hRs, takeMarks, resA, resAll, resOne, Value.cells, r14]
      refine ih (i + 1) _ A' (by omega) ((hk.trans (k1.keep _)).trans k3) ?_ ?_ ?_
      · rw [h3, hS]; rfl
      · intro j hj
        have e := hT' j (by omega)
        simp only [tget_tset] at e ⊢
        rw [if_neg (by omega), if_neg (by omega), if_neg (by omega), e]
        repeat (rw [if_neg (by omega)])
        exact hT j hj
      · simp [wrId (n := (i : Int) + 1 + 1) (by omega) (by omega)]
    · simp [hT 12 (by omega), q12]
    all_goals simp
theorem w20 {A : Hp} {V : Value → Hp → Prop} (hs : P.l.length ≤ 40) (hgr : groundOf A P.sl = some P.l) (hn : n < 1000000) (hr : RdS A 5 n (ints ss) sls) (hg : g ≤ A.n) (hF : waveE P ss n = 0 → WaveFin P ss n)
    (hQ : ∀ A' sv, Ext' A A' → AccS A.n A' 8 (ints (waveRes P ss n)) sv → V (.tuple ⟨[sv, .int .i64 (waveE P ss n)]⟩) A') :
    WF AP KL g 20 [gridV P.w P.h P.s P.sl, spn P.slo P.shi, modelV P.k0 P.k1 P.l0 P.l1 P.o0 P.o1, sls] A V := by
  have hzl : ss.length = n * 5 := by have := hr.1; rwa [ints_length] at this
  have hlenS := hr.len
  obtain ⟨B, hB⟩ : ∃ B, B = ((A.push (.cells [.int .i64 P.w, .int .i64 P.h, .int .i64 P.s, P.sl] false)).push (.cells [.int .i64 P.slo, .int .i64 P.shi] false)).push (.cells [.int .i64 P.k0, .int .i64 P.k1, .int .i64 P.l0, .int .i64 P.l1, .int .i64 P.o0, .int .i64 P.o1] false) := ⟨_, rfl⟩
  have kB : Ext' A B := by rw [hB]; exact ((Ext'.push _ _).trans (Ext'.push _ _)).trans (Ext'.push _ _)
  have b4 : B.get A.n = some (.cells [.int .i64 P.w, .int .i64 P.h, .int .i64 P.s, P.sl] false) := by rw [hB]; exact push3_a
  have b5 : B.get (A.n + 1) = some (.cells [.int .i64 P.slo, .int .i64 P.shi] false) := by rw [hB]; exact push3_b
  have b6 : B.get (A.n + 2) = some (.cells [.int .i64 P.k0, .int .i64 P.k1, .int .i64 P.l0, .int .i64 P.l1, .int .i64 P.o0, .int .i64 P.o1] false) := by rw [hB]; exact push3_c
  have nB : B.n = A.n + 3 := by rw [hB]; rfl
  have hgB := groundOf_mono hgr kB.2
  have bad : ∀ A' e, Ext' A A' → waveE P ss n = e → e ≠ 0 → V (.tuple ⟨[.slice none 0 0, .int .i64 e]⟩) A' := by
    intro A' e k h h0
    have := hQ A' (.slice none 0 0) k (.inl ⟨rfl, by unfold waveRes; rw [if_neg (by rw [h]; exact h0)]; rfl⟩)
    rw [h] at this
    exact this
  rw [WF_body rfl (show AP 20 = some F20 from rfl)]
  simp (disch := as_aux_lemma => first | omega | simp only [hDs] <;> omega | simp [isCell]) [hRs, takeMarks, resA, resAll, resOne, Value.cells, gridV, spn, modelV, J]
  rw [← hB]
  refine w46 hgB (by omega) fun A1 k1 => ?_
  have c4 := k1.get b4
  have c5 := k1.get b5
  have c6 := k1.get b6
  have n1 := k1.1
  have kA := kB.trans k1
  have hr1 := hr.mono kA.2
  have hg1 := groundOf_mono hgr kA.2
  by_cases h1 : prepE P = 0
  · by_cases h2 : 256 < n
    · simp (disch := as_aux_lemma => first | omega | simp only [hDs] <;> omega | simp [isCell]) [hRs, takeMarks, resA, resAll, resOne, Value.cells, h1, hlenS, show (256 : Int) < n by omega]
      exact bad _ 9 kA (by unfold waveE; rw [if_pos h1, if_pos h2]) (by omega)
    · have he : waveE P ss n = srcsE P ss 0 n := by unfold waveE; rw [if_pos h1, if_neg h2]
      have hpos : 0 < P.l.length := (prep_ok h1 hs).pos
      simp (disch := as_aux_lemma => first | omega | simp only [hDs] <;> omega | simp [isCell]) [hRs, takeMarks, resA, resAll, resOne, Value.cells, h1, hlenS, show ¬ (256 : Int) < n by omega]
      refine loop20a (A0 := A1) (b4 := A.n) hn hg1 c4 hr1 (fun T' h3 hT => ?_) (fun T' h3 h8 h9 => ?_) n 0 _ (by omega) rfl (fun _ _ => rfl) ?_ ?_ ?_
      · have q4 := hT 4 (by omega)
        have q5 := hT 5 (by omega)
        have q6 := hT 6 (by omega)
        have q3 := hT 3 (by omega)
        simp at q4 q5 q6 q3
        have h0 : waveE P ss n = 0 := by rw [he]; exact h3
        have hfin := hF h0
        by_cases hn0 : n = 0
        · subst hn0
          have hE : sprE P [] 0 = 0 := by unfold sprE; rw [if_pos h1, if_neg (by omega)]; rfl
          simp (disch := as_aux_lemma => first | omega | simp only [hDs] <;> omega | simp [isCell]) [hRs, takeMarks, resA, resAll, resOne, Value.cells, q3, q4, q5, q6, hlenS, c4, c5, c6]
          refine w28 (P := P) (zs := []) (n := 0) hs hg1 (by omega) ⟨rfl, .inl ⟨rfl, rfl⟩⟩ (by omega) (fun _ => (hfin.none rfl).2) fun A3 sv k3 hacc => ?_
          simp (disch := as_aux_lemma => first | omega | simp only [hDs] <;> omega | simp [isCell]) [hRs, takeMarks, resA, resAll, resOne, Value.cells, hE]
          have := hQ A3 sv (kA.trans k3) (by
            unfold waveRes
            rw [if_pos h0, if_pos rfl]
            unfold sprRes at hacc
            rw [if_pos hE] at hacc
            exact hacc.weaken kA.1)
          rw [h0] at this
          exact this
        · obtain ⟨y, cap, ro, hsl, hy⟩ := hr1.at (i := 0) (by omega)
          have hyn := Hp.lt_of_get hy
          have hz : ∀ j, j < n → (srcAt ss j).err P.l.length = 0 := fun j hj => srcsE_zero h3 j (by omega) (by omega)
          obtain ⟨S, hS⟩ : ∃ S, S = srcAt ss 0 := ⟨_, rfl⟩
          have f0 : gi ss 0 = S.k := by rw [hS]; rfl
          have f1 : gi ss 1 = S.c := by rw [hS]; rfl
          have f2 : gi ss 2 = S.cl := by rw [hS]; rfl
          have f3 : gi ss 3 = S.lo := by rw [hS]; rfl
          have f4 : gi ss 4 = S.hi := by rw [hS]; rfl
          have hSe : S.err P.l.length = 0 := by rw [hS]; exact hz _ (by omega)
          have q3' := q3
          have hlenS' := hlenS
          rw [hsl] at q3' hlenS'
          simp (disch := as_aux_lemma => first | omega | simp only [hDs] <;> omega | simp [isCell]) [hRs, takeMarks, resA, resAll, resOne, Value.cells, q3', q4, q5, q6, hlenS', c4, c5, c6, hn0, show ¬ ((n : Int) = 0) by omega, idxSA_ok, show (0 : Int) < n by omega, hy, ints_5, f0, f1, f2, f3, f4]
          refine w17 (P := P) (S := S) hs hg1 (by omega) (fun _ => by rw [hS]; exact (hfin.one 0 (by omega)).2.2) fun A2 sv k2 hacc => ?_
          rw [oneRes_src h1 hSe] at hacc
          obtain ⟨x, rfl, gx, hx⟩ := AccS.rows8 hacc (m := P.l.length) bounds_len hpos
          have n2 := k2.1
          simp (disch := as_aux_lemma => first | omega | simp only [hDs] <;> omega | simp [isCell]) [hRs, takeMarks, resA, resAll, resOne, Value.cells, oneE_src h1 hSe]
          have hlo : ∀ A3, Keep (fun z => z = x) A2 A3 → ∀ z, z < A1.n → A3.get z = A1.get z := fun A3 k3 z hz => by rw [k3.2 z (by omega) (by omega), k2.2 z hz]
          refine loop20b (A0 := A2) (b4 := A.n) (b5 := A.n + 1) (b6 := A.n + 2) (x := x) (P := P) (ss := ss) (n := n) (sls := sls) (T0 := _) hn hs h1 hz (fun j hj => (hfin.one j hj).2) (fun A3 k3 => groundOf_mono hg1 (hlo A3 k3)) (by omega) (Hp.lt_of_get gx) (fun A3 k3 => hr1.mono (hlo A3 k3)) (k2.get c4) (k2.get c5) (k2.get c6) (by omega) (by omega) (by omega) ?_ ?_ ?_ ?_ ?_ (fun T5 A5 k5 g5 hT5 => ?_) (n - 1) 0 _ A2 (by omega) (Keep.refl _ _) (by rw [gx, hS]; rfl) (fun _ _ => rfl) ?_
          · simp [q4, ptrV]
          · simp [q5, ptrV]
          · simp [q6, ptrV]
          · simp [q3]
          · simp
          · have r12 := hT5 12 (by omega)
            simp at r12
            simp (disch := as_aux_lemma => first | omega | simp only [hDs] <;> omega | simp [isCell]) [hRs, takeMarks, resA, resAll, resOne, Value.cells, r12]
            have hlb : (ints (waveL P ss (n - 1))).length = P.l.length * 8 := by rw [ints_length]; exact waveL_len _
            have kD : Ext' A A5 := ⟨by have := kA.1; have := k5.1; omega, fun z hz => by rw [k5.2 z (by have := kA.1; omega) (by have := kA.1; omega), k2.2 z (by have := kA.1; omega), kA.2 z hz]⟩
            have := hQ A5 (.slice (some ⟨x, 0, some 8⟩) P.l.length P.l.length) kD (by
              unfold waveRes
              rw [if_pos h0, if_neg hn0]
              exact .inr ⟨x, P.l.length, rfl, g5, by have := kA.1; omega, hlb, hpos⟩)
            rw [h0] at this
            exact this
          · simp
      · simp (disch := as_aux_lemma => first | omega | simp only [hDs] <;> omega | simp [isCell]) [hRs, takeMarks, resA, resAll, resOne, Value.cells, h8, h9]
        exact bad A1 _ kA he h3
      all_goals simp [ptrV]
  · simp (disch := as_aux_lemma => first | omega | simp only [hDs] <;> omega | simp [isCell]) [hRs, takeMarks, resA, resAll, resOne, Value.cells, h1]
    exact bad A1 _ kA (by unfold waveE; rw [if_neg h1]) h1
end
end Go.Ab.Wave
namespace Go.Ab.Wave
open Go Go.Ab
section
variable {g : Nat} {A : Hp} {V : Value → Hp → Prop}
theorem loop18 {bs : List Int} {m N M : Nat} {sa sb : Value} {D : List Nat} {rd : Option Nat} {Q : Ex → St → Prop} (ha : AccS N A 8 (ints bs) sa) (hb : AccS M A 8 (ints bs) sb) (hz : bs.length = m * 8) (hm : m < 1000000) (hQ : ∀ T', Q (.exit 0) ⟨T', D, A⟩) :
    ∀ (k i : Nat) (T : List Value), i + k = m → tget T 0 = sa → tget T 1 = sb → tget T 5 = .int .i64 i → W AP KL g rd (.loop body18) ⟨T, D, A⟩ Q := by
  have hla := ha.lenI (n := m) (by simpa using hz) (by decide)
  intro k
  induction k with
  | zero =>
    intro i T hi t0 t1 t5
    rw [W_loop]
    simp (disch := as_aux_lemma => first | omega | simp only [hDs] <;> omega | simp [isCell]) [hRs, takeMarks, resA, resAll, resOne, Value.cells, body18, t0, t5, hla, show ¬ ((i : Int) < m) by omega]
    exact hQ _
  | succ k ih =>
    intro i T hi t0 t1 t5
    obtain ⟨x, rfl, hx⟩ := ha.someOf (i := i) (n := m) (by simpa using hz) (by omega) (by decide)
    obtain ⟨y, rfl, hy⟩ := hb.someOf (i := i) (n := m) (by simpa using hz) (by omega) (by decide)
    have w0 := ints_two (l := bs) (o := i * 8) (by omega)
    have w2 := ints_two (l := bs) (o := i * 8 + 2) (by omega)
    have w4 := ints_two (l := bs) (o := i * 8 + 4) (by omega)
    have w6 := ints_two (l := bs) (o := i * 8 + 6) (by omega)
    rw [W_loop]
    simp (disch := as_aux_lemma => first | omega | simp only [hDs] <;> omega | simp [isCell]) [hRs, takeMarks, resA, resAll, resOne, Value.cells, body18, t0, t1, t5, show ((i : Int) < m) by omega, idxSA_ok, hx, hy, w0, w2, w4, w6, eqv2]
    refine ih (i + 1) _ (by omega) ?_ ?_ ?_
    · simp [t0]
    · simp [t1]
    · simp [wrId (n := (i : Int) + 1) (by omega) (by omega)]
theorem w18 {bs : List Int} {m N M : Nat} {sa sb : Value} (ha : AccS N A 8 (ints bs) sa) (hb : AccS M A 8 (ints bs) sb) (hz : bs.length = m * 8) (hm : m < 1000000) (hQ : V (.bool true) A) : WF AP KL g 18 [sa, sb] A V := by
  have hla := ha.lenI (n := m) (by simpa using hz) (by decide)
  have hlb := hb.lenI (n := m) (by simpa using hz) (by decide)
  rw [WF_body rfl (show AP 18 = some F18 from rfl)]
  simp (disch := as_aux_lemma => first | omega | simp only [hDs] <;> omega | simp [isCell]) [hRs, takeMarks, resA, resAll, resOne, Value.cells, hla, hlb]
  refine loop18 ha hb hz hm (fun T' => ?_) m 0 _ (by omega) (by simp) (by simp) (by simp)
  simp (disch := as_aux_lemma => first | omega | simp only [hDs] <;> omega | simp [isCell]) [hRs, takeMarks, resA, resAll, resOne, Value.cells]
  exact hQ
theorem GuardW_undef {K : Nat → Option Spec} {dst : Option Nat} {op : AOp} {l : List AOper} {T : List Value} {R : List Value → Hp → Prop} {b : Bool} : GuardW AP K g dst op l T A R b undef = WO AP K g l (putA dst T undef) A R := rfl
def cp5 (zs : List Int) (i : Nat) : List Int := (List.range i).flatMap fun j => [gi zs (j * 5), gi zs (j * 5 + 1), gi zs (j * 5 + 2), gi zs (j * 5 + 3), gi zs (j * 5 + 4)]
theorem cp5_succ {zs : List Int} {i : Nat} : cp5 zs (i + 1) = cp5 zs i ++ [gi zs (i * 5), gi zs (i * 5 + 1), gi zs (i * 5 + 2), gi zs (i * 5 + 3), gi zs (i * 5 + 4)] := by
  unfold cp5
  rw [List.range_succ, List.flatMap_append, List.flatMap_singleton]
theorem cp5_len {zs : List Int} : ∀ {i : Nat}, (cp5 zs i).length = i * 5
  | 0 => rfl
  | i + 1 => by rw [cp5_succ, List.length_append, cp5_len]; simp; omega
theorem cp5_get {zs : List Int} : ∀ {i o : Nat}, o < i * 5 → gi (cp5 zs i) o = gi zs o
  | i + 1, o, h => by
    have hl : (cp5 zs i).length = i * 5 := cp5_len
    rw [cp5_succ]
    by_cases e : o < i * 5
    · have : gi (cp5 zs i ++ [gi zs (i * 5), gi zs (i * 5 + 1), gi zs (i * 5 + 2), gi zs (i * 5 + 3), gi zs (i * 5 + 4)]) o = gi (cp5 zs i) o := by
        unfold gi
        simp only [List.getD_eq_getElem?_getD]
        rw [List.getElem?_append_left (by omega)]
      rw [this]; exact cp5_get e
    · obtain ⟨j, hj, h5⟩ : ∃ j, o = (cp5 zs i).length + j ∧ j < 5 := ⟨o - i * 5, by omega, by omega⟩
      rw [hj, gi_pre, hl]
      rcases j with _ | _ | _ | _ | _ | j <;> first | rfl | omega
theorem cp5_all {zs : List Int} {n : Nat} (h : zs.length = n * 5) : cp5 zs n = zs := gi_ext cp5_len h fun o ho => cp5_get ho
variable {P : Par} {zs : List Int} {n : Nat} {sls : Value}
theorem loop6 {D : List Nat} {rd : Option Nat} {Q : Ex → St → Prop} {A0 : Hp} {T0 : List Value} (hn : n < 1000000) (hg : g ≤ A0.n) (hr : RdS A0 5 n (ints zs) sls)
    (hQ : ∀ T' A' sv, AccS A0.n A' 5 (ints zs) sv → Ext' A0 A' → tget T' 9 = sv → (∀ i, i < 8 → tget T' i = tget T0 i) → Q (.exit 0) ⟨T', D, A'⟩) :
    ∀ (k i : Nat) (T : List Value) (A : Hp) (sv : Value), i + k = n → AccS A0.n A 5 (ints (cp5 zs i)) sv → Ext' A0 A → (∀ i, i < 8 → tget T i = tget T0 i) → tget T0 3 = sls → tget T 9 = sv → tget T 10 = .int .i64 i → W AP KL g rd (.loop body6) ⟨T, D, A⟩ Q := by
  have hlenS := hr.len
  have hzl : zs.length = n * 5 := by have := hr.1; rwa [ints_length] at this
  intro k
  induction k with
  | zero =>
    intro i T A sv hi hacc hk hT t3' t9 t10
    have t3 := (hT 3 (by omega)).trans t3'
    have e : i = n := by omega
    rw [W_loop]
    simp (disch := as_aux_lemma => first | omega | simp only [hDs] <;> omega | simp [isCell]) [hRs, takeMarks, resA, resAll, resOne, Value.cells, body6, t3, t10, hlenS, show ¬ (i : Int) < n by omega]
    rw [e, cp5_all hzl] at hacc
    refine hQ _ A sv hacc hk (by simp [t9]) fun j hj => ?_
    simp only [tget_tset]
    repeat (rw [if_neg (by omega)])
    exact hT j hj
  | succ k ih =>
    intro i T A sv hi hacc hk hT t3' t9 t10
    obtain ⟨y, cap, ro, hsl, hy0⟩ := hr.at (i := i) (by omega)
    have t3 := ((hT 3 (by omega)).trans t3').trans hsl
    have hy := hk.get hy0
    have hl : (cp5 zs i).length = i * 5 := cp5_len
    have w0 := ints_get (l := zs) (o := i * 5) (by omega)
    have w1 := ints_two (l := zs) (o := i * 5 + 1) (by omega)
    have w3 := ints_two (l := zs) (o := i * 5 + 3) (by omega)
    obtain ⟨sv', A', e, hacc', hold', hn'⟩ := hacc.add (g := g) (bytes := 40) (new := [.int .i64 (gi zs (i * 5)), .int .i64 (gi zs (i * 5 + 1)), .int .i64 (gi zs (i * 5 + 2)), .int .i64 (gi zs (i * 5 + 3)), .int .i64 (gi zs (i * 5 + 4))]) (ro := false) (n := i) hg hk.1 rfl (by decide) rfl (by rw [ints_length, hl]) (by unfold room; omega)
    rw [W_loop]
    simp (disch := as_aux_lemma => first | omega | simp only [hDs] <;> omega | simp [isCell]) [hRs, takeMarks, resA, resAll, resOne, Value.cells, body6, t3, t9, t10, show (i : Int) < n by omega, idxSA_ok, hy, w0, w1, w3, fillA, setRange, slitA, e]
    refine ih (i + 1) _ A' sv' (by omega) ?_ ⟨by have := hk.1; omega, fun z hz => by rw [hold' z hz, hk.2 z hz]⟩ (fun j hj => ?_) t3' ?_ ?_
    · rw [cp5_succ, ints_append]; exact hacc'
    · simp only [tget_tset]
      repeat (rw [if_neg (by omega)])
      exact hT j hj
    · simp
    · simp [wrId (n := (i : Int) + 1) (by omega) (by omega)]
theorem sprRes_len : ∃ m, (sprRes P zs n).length = m * 8 ∧ (P.l.length ≤ 40 → m < 1000000) := by
  unfold sprRes
  split
  · exact ⟨P.l.length, bounds_len, fun h => by omega⟩
  · exact ⟨0, rfl, fun _ => by omega⟩
theorem w6 (hgr : groundOf A P.sl = some P.l) (hr : RdS A 5 n (ints zs) sls) (hg : g ≤ A.n) (hQ : ∀ A', V (.bool true) A') :
    WF AP KL g 6 [gridV P.w P.h P.s P.sl, spn P.slo P.shi, modelV P.k0 P.k1 P.l0 P.l1 P.o0 P.o1, sls] A V := by
  have hlen : lenV P.sl = some (.int .i64 P.l.length) := by
    rcases (groundOf_cases hgr).2 with ⟨h1, h2⟩ | ⟨x, cap, ro, h1, _⟩
    · rw [h1, h2]; rfl
    · rw [h1]; rfl
  have hlenS := hr.len
  obtain ⟨B, hB⟩ : ∃ B, B = ((A.push (.cells [.int .i64 P.w, .int .i64 P.h, .int .i64 P.s, P.sl] false)).push (.cells [.int .i64 P.slo, .int .i64 P.shi] false)).push (.cells [.int .i64 P.k0, .int .i64 P.k1, .int .i64 P.l0, .int .i64 P.l1, .int .i64 P.o0, .int .i64 P.o1] false) := ⟨_, rfl⟩
  have kB : Ext' A B := by rw [hB]; exact ((Ext'.push _ _).trans (Ext'.push _ _)).trans (Ext'.push _ _)
  have b4 : B.get A.n = some (.cells [.int .i64 P.w, .int .i64 P.h, .int .i64 P.s, P.sl] false) := by rw [hB]; exact push3_a
  have b5 : B.get (A.n + 1) = some (.cells [.int .i64 P.slo, .int .i64 P.shi] false) := by rw [hB]; exact push3_b
  have b6 : B.get (A.n + 2) = some (.cells [.int .i64 P.k0, .int .i64 P.k1, .int .i64 P.l0, .int .i64 P.l1, .int .i64 P.o0, .int .i64 P.o1] false) := by rw [hB]; exact push3_c
  have nB : B.n = A.n + 3 := by rw [hB]; rfl
  have hrB := hr.mono kB.2
  have hgB := groundOf_mono hgr kB.2
  rw [WF_body rfl (show AP 6 = some F6 from rfl)]
  simp (disch := as_aux_lemma => first | omega | simp only [hDs] <;> omega | simp [isCell]) [hRs, takeMarks, resA, resAll, resOne, Value.cells, gridV, spn, modelV, J]
  rw [← hB]
  by_cases c1 : 40 < P.l.length
  · simp (disch := as_aux_lemma => first | omega | simp only [hDs] <;> omega | simp [isCell]) [hRs, takeMarks, resA, resAll, resOne, Value.cells, GuardW_undef, b4, hlen, hlenS, show (40 : Int) < P.l.length by omega, WF_spec (show KL 10 = some (memoSpec [mWorks]) from rfl), works_eq]
    exact hQ _
  · by_cases c2 : 20 < n ∧ n ≤ 512
    · simp (disch := as_aux_lemma => first | omega | simp only [hDs] <;> omega | simp [isCell]) [hRs, takeMarks, resA, resAll, resOne, Value.cells, b4, hlen, hlenS, show ¬ (40 : Int) < P.l.length by omega, show (20 : Int) < n by omega, show (n : Int) ≤ 512 by omega, WF_spec (show KL 10 = some (memoSpec [mWorks]) from rfl), works_eq]
      exact hQ _
    · by_cases c3 : 600 < n
      · simp (disch := as_aux_lemma => first | omega | simp only [hDs] <;> omega | simp [isCell]) [hRs, takeMarks, resA, resAll, resOne, Value.cells, b4, hlen, hlenS, show ¬ (40 : Int) < P.l.length by omega, show (20 : Int) < n by omega, show ¬ (n : Int) ≤ 512 by omega, show (600 : Int) < n by omega, WF_spec (show KL 10 = some (memoSpec [mWorks]) from rfl), works_eq]
        exact hQ _
      · have rest : ∀ (T : List Value), tget T 3 = sls → tget T 4 = ptrV A.n → tget T 5 = ptrV (A.n + 1) → tget T 6 = ptrV (A.n + 2) → True := fun _ _ _ _ _ => trivial
        by_cases c4 : 20 < n
        · simp (disch := as_aux_lemma => first | omega | simp only [hDs] <;> omega | simp [isCell]) [hRs, takeMarks, resA, resAll, resOne, Value.cells, b4, hlen, hlenS, show ¬ (40 : Int) < P.l.length by omega, show (20 : Int) < n by omega, show ¬ (n : Int) ≤ 512 by omega, show ¬ (600 : Int) < n by omega]
          refine loop6 (A0 := B) (n := n) (by omega) (by omega) hrB (fun T' A1 sp hacc1 k1 t9 hT => ?_) n 0 _ B (.slice none 0 0) (by omega) AccS.nil (Ext'.refl _) (fun _ _ => rfl) ?_ ?_ ?_
          · have q3 := hT 3 (by omega)
            have q4 := hT 4 (by omega)
            have q5 := hT 5 (by omega)
            have q6 := hT 6 (by omega)
            simp at q3 q4 q5 q6
            have n1 := k1.1
            have d4 := k1.get b4
            have d5 := k1.get b5
            have d6 := k1.get b6
            simp (disch := as_aux_lemma => first | omega | simp only [hDs] <;> omega | simp [isCell]) [hRs, takeMarks, resA, resAll, resOne, Value.cells, q4, q5, q6, t9, d4, d5, d6, WF_spec (show KL 14 = some S14 from rfl), S14_eq]
            refine w27 (P := P) (zs := zs) (n := n) (by omega) (groundOf_mono hgB k1.2) (by omega) (hacc1.rd (n := n) (by have := hr.1; exact this) (by decide)) (by omega) fun A2 sv k2 hacc2 hfin => ?_
            have n2 := k2.1
            have e4 := k2.get d4
            have e5 := k2.get d5
            have e6 := k2.get d6
            simp (disch := as_aux_lemma => first | omega | simp only [hDs] <;> omega | simp [isCell]) [hRs, takeMarks, resA, resAll, resOne, Value.cells, q4, q5, q6, q3, e4, e5, e6]
            refine w28 (P := P) (zs := zs) (n := n) (by omega) (groundOf_mono (groundOf_mono hgB k1.2) k2.2) (by omega) ((hrB.mono k1.2).mono k2.2) (by omega) (fun h => (hfin h).2) fun A3 sv3 k3 hacc3 => ?_
            obtain ⟨m, hm1, hm2⟩ := sprRes_len (P := P) (zs := zs) (n := n)
            have n3 := k3.1
            simp (disch := as_aux_lemma => first | omega | simp only [hDs] <;> omega | simp [isCell]) [hRs, takeMarks, resA, resAll, resOne, Value.cells]
            refine w18 (N := 0) (M := 0) ((hacc2.mono fun x hx => k3.2 x hx).weaken (Nat.zero_le _)) (hacc3.weaken (Nat.zero_le _)) hm1 (hm2 (by omega)) ?_
            simp (disch := as_aux_lemma => first | omega | simp only [hDs] <;> omega | simp [isCell]) [hRs, takeMarks, resA, resAll, resOne, Value.cells, WF_spec (show KL 10 = some (memoSpec [mWorks]) from rfl), works_eq]
            exact hQ _
          all_goals simp
        · simp (disch := as_aux_lemma => first | omega | simp only [hDs] <;> omega | simp [isCell]) [hRs, takeMarks, resA, resAll, resOne, Value.cells, b4, hlen, hlenS, show ¬ (40 : Int) < P.l.length by omega, show ¬ (20 : Int) < n by omega, show ¬ (600 : Int) < n by omega]
          refine loop6 (A0 := B) (n := n) (by omega) (by omega) hrB (fun T' A1 sp hacc1 k1 t9 hT => ?_) n 0 _ B (.slice none 0 0) (by omega) AccS.nil (Ext'.refl _) (fun _ _ => rfl) ?_ ?_ ?_
          · have q3 := hT 3 (by omega)
            have q4 := hT 4 (by omega)
            have q5 := hT 5 (by omega)
            have q6 := hT 6 (by omega)
            simp at q3 q4 q5 q6
            have n1 := k1.1
            have d4 := k1.get b4
            have d5 := k1.get b5
            have d6 := k1.get b6
            simp (disch := as_aux_lemma => first | omega | simp only [hDs] <;> omega | simp [isCell]) [hRs, takeMarks, resA, resAll, resOne, Value.cells, q4, q5, q6, t9, d4, d5, d6, WF_spec (show KL 14 = some S14 from rfl), S14_eq]
            refine w27 (P := P) (zs := zs) (n := n) (by omega) (groundOf_mono hgB k1.2) (by omega) (hacc1.rd (n := n) (by have := hr.1; exact this) (by decide)) (by omega) fun A2 sv k2 hacc2 hfin => ?_
            have n2 := k2.1
            have e4 := k2.get d4
            have e5 := k2.get d5
            have e6 := k2.get d6
            simp (disch := as_aux_lemma => first | omega | simp only [hDs] <;> omega | simp [isCell]) [hRs, takeMarks, resA, resAll, resOne, Value.cells, q4, q5, q6, q3, e4, e5, e6]
            refine w28 (P := P) (zs := zs) (n := n) (by omega) (groundOf_mono (groundOf_mono hgB k1.2) k2.2) (by omega) ((hrB.mono k1.2).mono k2.2) (by omega) (fun h => (hfin h).2) fun A3 sv3 k3 hacc3 => ?_
            obtain ⟨m, hm1, hm2⟩ := sprRes_len (P := P) (zs := zs) (n := n)
            have n3 := k3.1
            simp (disch := as_aux_lemma => first | omega | simp only [hDs] <;> omega | simp [isCell]) [hRs, takeMarks, resA, resAll, resOne, Value.cells]
            refine w18 (N := 0) (M := 0) ((hacc2.mono fun x hx => k3.2 x hx).weaken (Nat.zero_le _)) (hacc3.weaken (Nat.zero_le _)) hm1 (hm2 (by omega)) ?_
            simp (disch := as_aux_lemma => first | omega | simp only [hDs] <;> omega | simp [isCell]) [hRs, takeMarks, resA, resAll, resOne, Value.cells, WF_spec (show KL 10 = some (memoSpec [mWorks]) from rfl), works_eq]
            exact hQ _
          all_goals simp
end
end Go.Ab.Wave
namespace Go.Ab.Wave
open Go Go.Ab
def pa3 : ACode := (.ops [
oP 4 (.box (.t 0)),
oP 5 (.box (.t 1)),
oP 6 (.box (.t 2)),
oP 8 (.move (.k (.bool false)))])
def pb3 : ACode := (.seq
 (.ops [
oF 14 4 3,
oL 15 14,
oP 16 (.len (.t 15)),
oC 17 .gtr 16 30,
oM 18 17,
oN 19 18 false 3,
oQ 20 18 false (.len (.t 19)),
oQ 21 18 false (.bin .gtr (.t 20) (oK 6)),
oN 22 18 false 21,
oN 23 22 true 3,
oQ 24 22 true (.len (.t 23)),
oQ 25 22 true (.bin .leq (.t 24) (oK 256)),
oQ 26 18 false (.pick (.t 22) (.t 25) (.k (.bool false))),
oP 27 (.pick (.t 18) (.k (.bool true)) (.t 26)),
oM 28 27,
oN 29 28 false 3,
oQ 30 28 false (.len (.t 29)),
oQ 31 28 false (.bin .gtr (.t 30) (oK 300)),
oP 32 (.pick (.t 28) (.k (.bool true)) (.t 31))])
 (.cond (.t 32)
 (.seq
 (.ops [
oA 33 10 [] false,
oM 8 33])
 .ret)
 .skip))
def pc3 : ACode := (.ops [
oP 34 (.build [.int .i64 0, .int .i64 0, .int .i64 0, .int .i64 0, .int .i64 0] []),
oP 9 (.alloc [.int .i64 0, .int .i64 0, .int .i64 0, .int .i64 0, .int .i64 0]),
oT 9 34 5])
def pd3 : ACode := (.seq
 (.ops [
oM 35 3,
oP 36 (.len (.t 35)),
oC 37 .gtr 36 0])
 (.cond (.t 37)
 (.ops [
oM 38 3,
oP 39 (.idxS (.t 38) (oK 0) 5),
oD 40 39 5,
oT 9 40 5])
 .skip))
def pe3 : ACode := (.seq
 (.ops [
oD 42 4 4,
oD 43 5 2,
oD 44 6 6,
oA 45 14 [.t 44] true,
oD 46 9 5,
oA 47 16 [.t 42, .t 43, .t 45, .t 46] false,
oM 41 47,
oX 48 41 0,
oX 49 41 1,
oM 10 48,
oM 11 49])
 (.seq
 (.ops [
oD 51 4 4,
oD 52 5 2,
oD 53 6 6,
oD 54 9 5,
oA 55 17 [.t 51, .t 52, .t 53, .t 54] false,
oM 50 55,
oX 56 50 0,
oX 57 50 1,
oM 12 56,
oM 13 57])
 (.seq
 (.seq
 (.ops [
oM 58 10,
oM 59 12,
oA 60 18 [.t 58, .t 59] false,
oP 61 (.not (.t 60)),
oM 62 61,
oN 63 62 false 11,
oN 64 62 false 13,
oQ 65 62 false (.bin .neq (.t 63) (.t 64)),
oP 66 (.pick (.t 62) (.k (.bool true)) (.t 65))])
 (.cond (.t 66)
 (.seq
 (.ops [
oP 8 (.move (.k (.bool false)))])
 .ret)
 .skip))
 (.seq
 (.ops [
oD 68 4 4,
oD 69 5 2,
oD 70 6 6,
oA 71 14 [.t 70] true,
oM 72 3,
oA 73 19 [.t 68, .t 69, .t 71, .t 72] false,
oM 67 73,
oX 74 67 0,
oX 75 67 1,
oM 10 74,
oM 11 75])
 (.seq
 (.ops [
oD 77 4 4,
oD 78 5 2,
oD 79 6 6,
oM 80 3,
oA 81 20 [.t 77, .t 78, .t 79, .t 80] false,
oM 76 81,
oX 82 76 0,
oX 83 76 1,
oM 12 82,
oM 13 83])
 (.seq
 (.ops [
oM 84 10,
oM 85 12,
oA 86 18 [.t 84, .t 85] false,
oM 87 86,
oN 88 87 true 11,
oN 89 87 true 13,
oQ 90 87 true (.bin .eql (.t 88) (.t 89)),
oP 91 (.pick (.t 87) (.t 90) (.k (.bool false))),
oM 92 91,
oQ 93 92 true (.call (.k (.func (.func 10) ⟨[]⟩ ⟨[]⟩)) [] false),
oP 94 (.pick (.t 92) (.t 93) (.k (.bool false))),
oM 8 94])
 .ret))))))
theorem AP3 : AP 3 = some (.fn 95 [.tmp 8] (.seq pa3 (.seq pb3 (.seq pc3 (.seq pd3 pe3))))) := rfl
def S00 : Src := ⟨0, 0, 0, 0, 0⟩
theorem oneRes_len {P : Par} {S : Src} : ∃ m, (oneRes P S).length = m * 8 ∧ m ≤ P.l.length := by
  unfold oneRes
  split
  · exact ⟨_, bounds_len, Nat.le_refl _⟩
  · exact ⟨0, rfl, Nat.zero_le _⟩
theorem waveRes_len {P : Par} {ss : List Int} {n : Nat} : ∃ m, (waveRes P ss n).length = m * 8 ∧ m ≤ P.l.length := by
  unfold waveRes
  split
  · split
    · exact ⟨_, bounds_len, Nat.le_refl _⟩
    · exact ⟨_, waveL_len _, Nat.le_refl _⟩
  · exact ⟨0, rfl, Nat.zero_le _⟩
section
variable {g : Nat} {A : Hp} {V : Value → Hp → Prop} {P : Par} {ss : List Int} {n : Nat} {sls : Value} {S : Src}
theorem rest3 {T : List Value} {A0 : Hp} {b : Nat} (hs : P.l.length ≤ 40) (hgr : groundOf A0 P.sl = some P.l) (hn : n < 1000000) (hr : RdS A0 5 n (ints ss) sls) (hg : g ≤ A0.n) (hQ : ∀ A', V (.bool true) A')
    (b4 : A0.get b = some (.cells [.int .i64 P.w, .int .i64 P.h, .int .i64 P.s, P.sl] false)) (b5 : A0.get (b + 1) = some (.cells [.int .i64 P.slo, .int .i64 P.shi] false)) (b6 : A0.get (b + 2) = some (.cells [.int .i64 P.k0, .int .i64 P.k1, .int .i64 P.l0, .int .i64 P.l1, .int .i64 P.o0, .int .i64 P.o1] false))
    (b9 : A0.get (b + 3) = some (.cells [.int .i64 S.k, .int .i64 S.c, .int .i64 S.cl, .int .i64 S.lo, .int .i64 S.hi] false))
    (t3 : tget T 3 = sls) (t4 : tget T 4 = ptrV b) (t5 : tget T 5 = ptrV (b + 1)) (t6 : tget T 6 = ptrV (b + 2)) (t9 : tget T 9 = ptrV (b + 3)) : W AP KL g none pe3 ⟨T, [], A0⟩ (FinQ [.tmp 8] V) := by
  have hlenS := hr.len
  simp (disch := as_aux_lemma => first | omega | simp only [hDs] <;> omega | simp [isCell]) [hRs, takeMarks, resA, resAll, resOne, Value.cells, pe3, t3, t4, t5, t6, t9, ptrV, b4, b5, b6, b9, WF_spec (show KL 14 = some S14 from rfl), S14_eq]
  refine w16 (P := P) (S := S) hs hgr hg fun A1 sv1 k1 acc1 f1 => ?_
  have c4 := k1.get b4
  have c5 := k1.get b5
  have c6 := k1.get b6
  have c9 := k1.get b9
  have n1 := k1.1
  simp (disch := as_aux_lemma => first | omega | simp only [hDs] <;> omega | simp [isCell]) [hRs, takeMarks, resA, resAll, resOne, Value.cells, t3, t4, t5, t6, t9, ptrV, c4, c5, c6, c9]
  refine w17 (P := P) (S := S) hs (groundOf_mono hgr k1.2) (by omega) (fun h => (f1 h).2) fun A2 sv2 k2 acc2 => ?_
  have d4 := k2.get c4
  have d5 := k2.get c5
  have d6 := k2.get c6
  have n2 := k2.1
  obtain ⟨m, hm1, hm2⟩ := oneRes_len (P := P) (S := S)
  simp (disch := as_aux_lemma => first | omega | simp only [hDs] <;> omega | simp [isCell]) [hRs, takeMarks, resA, resAll, resOne, Value.cells]
  refine w18 (N := 0) (M := 0) ((acc1.mono fun x hx => k2.2 x hx).weaken (Nat.zero_le _)) (acc2.weaken (Nat.zero_le _)) hm1 (by omega) ?_
  simp (disch := as_aux_lemma => first | omega | simp only [hDs] <;> omega | simp [isCell]) [hRs, takeMarks, resA, resAll, resOne, Value.cells, t3, t4, t5, t6, ptrV, d4, d5, d6, WF_spec (show KL 14 = some S14 from rfl), S14_eq]
  have k02 := k1.trans k2
  refine w19 (P := P) (ss := ss) (n := n) hs (groundOf_mono hgr k02.2) hn (hr.mono k02.2) (by omega) fun A3 sv3 k3 acc3 f3 => ?_
  have e4 := k3.get d4
  have e5 := k3.get d5
  have e6 := k3.get d6
  have n3 := k3.1
  simp (disch := as_aux_lemma => first | omega | simp only [hDs] <;> omega | simp [isCell]) [hRs, takeMarks, resA, resAll, resOne, Value.cells, t3, t4, t5, t6, ptrV, e4, e5, e6]
  have k03 := k02.trans k3
  refine w20 (P := P) (ss := ss) (n := n) hs (groundOf_mono hgr k03.2) hn (hr.mono k03.2) (by omega) f3 fun A4 sv4 k4 acc4 => ?_
  obtain ⟨m', hm1', hm2'⟩ := waveRes_len (P := P) (ss := ss) (n := n)
  simp (disch := as_aux_lemma => first | omega | simp only [hDs] <;> omega | simp [isCell]) [hRs, takeMarks, resA, resAll, resOne, Value.cells]
  refine w18 (N := 0) (M := 0) ((acc3.mono fun x hx => k4.2 x hx).weaken (Nat.zero_le _)) (acc4.weaken (Nat.zero_le _)) hm1' (by omega) ?_
  simp (disch := as_aux_lemma => first | omega | simp only [hDs] <;> omega | simp [isCell]) [hRs, takeMarks, resA, resAll, resOne, Value.cells, WF_spec (show KL 10 = some (memoSpec [mWorks]) from rfl), works_eq]
  exact hQ _
theorem w3 (hgr : groundOf A P.sl = some P.l) (hr : RdS A 5 n (ints ss) sls) (hg : g ≤ A.n) (hQ : ∀ A', V (.bool true) A') :
    WF AP KL g 3 [gridV P.w P.h P.s P.sl, spn P.slo P.shi, modelV P.k0 P.k1 P.l0 P.l1 P.o0 P.o1, sls] A V := by
  have hlen : lenV P.sl = some (.int .i64 P.l.length) := by
    rcases (groundOf_cases hgr).2 with ⟨h1, h2⟩ | ⟨x, cap, ro, h1, _⟩
    · rw [h1, h2]; rfl
    · rw [h1]; rfl
  have hzl : ss.length = n * 5 := by have := hr.1; rwa [ints_length] at this
  have hlenS := hr.len
  obtain ⟨B, hB⟩ : ∃ B, B = ((A.push (.cells [.int .i64 P.w, .int .i64 P.h, .int .i64 P.s, P.sl] false)).push (.cells [.int .i64 P.slo, .int .i64 P.shi] false)).push (.cells [.int .i64 P.k0, .int .i64 P.k1, .int .i64 P.l0, .int .i64 P.l1, .int .i64 P.o0, .int .i64 P.o1] false) := ⟨_, rfl⟩
  have kB : Ext' A B := by rw [hB]; exact ((Ext'.push _ _).trans (Ext'.push _ _)).trans (Ext'.push _ _)
  have b4 : B.get A.n = some (.cells [.int .i64 P.w, .int .i64 P.h, .int .i64 P.s, P.sl] false) := by rw [hB]; exact push3_a
  have b5 : B.get (A.n + 1) = some (.cells [.int .i64 P.slo, .int .i64 P.shi] false) := by rw [hB]; exact push3_b
  have b6 : B.get (A.n + 2) = some (.cells [.int .i64 P.k0, .int .i64 P.k1, .int .i64 P.l0, .int .i64 P.l1, .int .i64 P.o0, .int .i64 P.o1] false) := by rw [hB]; exact push3_c
  have nB : B.n = A.n + 3 := by rw [hB]; rfl
  have hrB := hr.mono kB.2
  have hgB := groundOf_mono hgr kB.2
  rw [WF_body rfl AP3]
  simp (disch := as_aux_lemma => first | omega | simp only [hDs] <;> omega | simp [isCell]) [hRs, takeMarks, resA, resAll, resOne, Value.cells, pa3, gridV, spn, modelV, J]
  rw [← hB]
  by_cases c1 : 30 < P.l.length
  · simp (disch := as_aux_lemma => first | omega | simp only [hDs] <;> omega | simp [isCell]) [hRs, takeMarks, resA, resAll, resOne, Value.cells, pb3, GuardW_undef, b4, hlen, hlenS, show (30 : Int) < P.l.length by omega, WF_spec (show KL 10 = some (memoSpec [mWorks]) from rfl), works_eq]
    exact hQ _
  · by_cases c2 : 6 < n ∧ n ≤ 256
    · simp (disch := as_aux_lemma => first | omega | simp only [hDs] <;> omega | simp [isCell]) [hRs, takeMarks, resA, resAll, resOne, Value.cells, pb3, GuardW_undef, b4, hlen, hlenS, show ¬ (30 : Int) < P.l.length by omega, show (6 : Int) < n by omega, show (n : Int) ≤ 256 by omega, WF_spec (show KL 10 = some (memoSpec [mWorks]) from rfl), works_eq]
      exact hQ _
    · by_cases c3 : 300 < n
      · simp (disch := as_aux_lemma => first | omega | simp only [hDs] <;> omega | simp [isCell]) [hRs, takeMarks, resA, resAll, resOne, Value.cells, pb3, GuardW_undef, b4, hlen, hlenS, show ¬ (30 : Int) < P.l.length by omega, show (6 : Int) < n by omega, show ¬ (n : Int) ≤ 256 by omega, show (300 : Int) < n by omega, WF_spec (show KL 10 = some (memoSpec [mWorks]) from rfl), works_eq]
        exact hQ _
      · have c4 : ∀ (S : Src), Ext' B (B.push (.cells [.int .i64 S.k, .int .i64 S.c, .int .i64 S.cl, .int .i64 S.lo, .int .i64 S.hi] false)) := fun S => Ext'.push _ _
        have go : ∀ (T : List Value) (S : Src), tget T 3 = sls → tget T 4 = ptrV A.n → tget T 5 = ptrV (A.n + 1) → tget T 6 = ptrV (A.n + 2) → tget T 9 = ptrV (A.n + 3) →
            W AP KL g none pe3 ⟨T, [], B.push (.cells [.int .i64 S.k, .int .i64 S.c, .int .i64 S.cl, .int .i64 S.lo, .int .i64 S.hi] false)⟩ (FinQ [.tmp 8] V) := fun T S t3 t4 t5 t6 t9 =>
          rest3 (P := P) (S := S) (ss := ss) (n := n) (b := A.n) (by omega) (groundOf_mono hgB (c4 S).2) (by omega) (hrB.mono (c4 S).2) (by simp; omega) hQ ((c4 S).get b4) ((c4 S).get b5) ((c4 S).get b6) (by rw [show A.n + 3 = B.n by omega]; exact get_push_new) t3 t4 t5 t6 t9
        by_cases h0 : n = 0
        · subst h0
          have fin := go
          by_cases c5 : 6 < 0
          · omega
          · simp (disch := as_aux_lemma => first | omega | simp only [hDs] <;> omega | simp [isCell]) [hRs, takeMarks, resA, resAll, resOne, Value.cells, pb3, pc3, pd3, GuardW_undef, b4, hlen, hlenS, show ¬ (30 : Int) < P.l.length by omega, storeB_cells, setRange_all, fillA, set_push_eq, nB]
            exact go _ S00 (by simp) (by simp [ptrV]) (by simp [ptrV]) (by simp [ptrV]) (by simp [ptrV])
        · obtain ⟨y, cap, ro, hsl, hy⟩ := hrB.at (i := 0) (by omega)
          have hyn := Hp.lt_of_get hy
          have hlenS' := hlenS
          rw [hsl] at hlenS'
          have go := go
          rw [hsl] at go ⊢
          by_cases c5 : 6 < n
          · simp (disch := as_aux_lemma => first | omega | simp only [hDs] <;> omega | simp [isCell]) [hRs, takeMarks, resA, resAll, resOne, Value.cells, pb3, pc3, pd3, GuardW_undef, b4, hlen, hlenS', show ¬ (30 : Int) < P.l.length by omega, show (6 : Int) < n by omega, show ¬ (n : Int) ≤ 256 by omega, show ¬ (300 : Int) < n by omega, show (0 : Int) < n by omega, show 0 < n by omega, storeB_cells, setRange_all, fillA, set_push_eq, nB, idxSA_ok, hy, ints_5]
            exact go _ (srcAt ss 0) (by simp) (by simp [ptrV]) (by simp [ptrV]) (by simp [ptrV]) (by simp [ptrV])
          · simp (disch := as_aux_lemma => first | omega | simp only [hDs] <;> omega | simp [isCell]) [hRs, takeMarks, resA, resAll, resOne, Value.cells, pb3, pc3, pd3, GuardW_undef, b4, hlen, hlenS', show ¬ (30 : Int) < P.l.length by omega, show ¬ (6 : Int) < n by omega, show ¬ (300 : Int) < n by omega, show (0 : Int) < n by omega, show 0 < n by omega, storeB_cells, setRange_all, fillA, set_push_eq, nB, idxSA_ok, hy, ints_5]
            exact go _ (srcAt ss 0) (by simp) (by simp [ptrV]) (by simp [ptrV]) (by simp [ptrV]) (by simp [ptrV])
end
end Go.Ab.Wave
