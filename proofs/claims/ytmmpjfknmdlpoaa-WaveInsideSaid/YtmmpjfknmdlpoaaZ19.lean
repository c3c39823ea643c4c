/- The coast, and rows of small numbers, among a law's arguments. -/
import Derived.Test.YtmmpjfknmdlpoaaZ18
import Derived.Test.YtmmpjfknmdlpoaaZ14
import Derived.DataShut
set_option linter.unusedSimpArgs false
set_option linter.unusedVariables false
set_option linter.unusedSectionVars false
namespace Go.Ab.Wave
open Go Go.Ab
def NarZ (zw zn : List Int) (i : Nat) : Prop := zn.length = i * 5 ∧ ∀ j, j < i → gi zn (j * 5) = gi zw (j * 5) ∧ (gi zw (j * 5 + 1) ≤ gi zn (j * 5 + 1) ∧ gi zn (j * 5 + 1) ≤ gi zn (j * 5 + 2) ∧ gi zn (j * 5 + 2) ≤ gi zw (j * 5 + 2)) ∧
  (gi zw (j * 5 + 3) ≤ gi zn (j * 5 + 3) ∧ gi zn (j * 5 + 3) ≤ gi zn (j * 5 + 4) ∧ gi zn (j * 5 + 4) ≤ gi zw (j * 5 + 4))
theorem NarZ.nil {z : List Int} : NarZ z [] 0 := ⟨rfl, fun j h => by omega⟩
theorem NarZ.add {zw zn : List Int} {i : Nat} {c a b d e : Int} (h : NarZ zw zn i) (h0 : c = gi zw (i * 5)) (h1 : gi zw (i * 5 + 1) ≤ a ∧ a ≤ b ∧ b ≤ gi zw (i * 5 + 2)) (h2 : gi zw (i * 5 + 3) ≤ d ∧ d ≤ e ∧ e ≤ gi zw (i * 5 + 4)) : NarZ zw (zn ++ [c, a, b, d, e]) (i + 1) := by
  obtain ⟨hl, h⟩ := h
  refine ⟨by simp [hl]; omega, fun j hj => ?_⟩
  have el : ∀ k, k < i * 5 → gi (zn ++ [c, a, b, d, e]) k = gi zn k := fun k hk => by
    unfold gi
    simp only [List.getD_eq_getElem?_getD]
    rw [List.getElem?_append_left (by omega)]
  by_cases hji : j < i
  · rw [el _ (by omega), el _ (by omega), el _ (by omega), el _ (by omega), el _ (by omega)]; exact h j hji
  · have : j = i := by omega
    subst this
    have er : ∀ k, gi (zn ++ [c, a, b, d, e]) (j * 5 + k) = gi [c, a, b, d, e] k := fun k => by
      unfold gi
      simp only [List.getD_eq_getElem?_getD]
      rw [List.getElem?_append_right (by omega), show j * 5 + k - zn.length = k by omega]
    have e0 := er 0
    rw [Nat.add_zero] at e0
    rw [e0, er 1, er 2, er 3, er 4]
    exact ⟨h0, h1, h2⟩
section
variable {g : Nat} {D : List Nat} {rd : Option Nat} {Q : Ex → St → Prop} {A : Hp} {V : Value → Hp → Prop}
theorem loop7s {B0 : Hp} {T0 : List Value} {r q m : Nat} {k0 : Int} {wv zv : Value} {ws zs : List Int} {pt : Bool} (hz : ∀ i, i < m → (0 ≤ gi zs (i * 5 + 1) ∧ gi zs (i * 5 + 1) ≤ gi zs (i * 5 + 2) ∧ gi zs (i * 5 + 2) ≤ 1000000000) ∧ (0 ≤ gi zs (i * 5 + 3) ∧ gi zs (i * 5 + 3) ≤ gi zs (i * 5 + 4) ∧ gi zs (i * 5 + 4) ≤ 5000))
    (hm : m ≤ 100) (hk0 : 0 ≤ k0 ∧ k0 ≤ 300) (hws : Ws ws) (hrow : ∀ A, But r B0 A → RdS A 5 m (ints zs) zv) (hg : g ≤ r) (hr0 : r < B0.n)
    (hQ : ∀ T' A' tv zn, But r B0 A' → Num A' r q wv ws (k0 + 4 * (m : Int)) → AccS B0.n A' 5 (ints zn) tv → NarZ zs zn m → (∀ j, j < 19 → tget T' j = tget T0 j) → tget T' 19 = tv → Q (.exit 2) ⟨T', D, A'⟩) :
    ∀ (k i : Nat) (T : List Value) (A : Hp) (tv : Value) (zn : List Int), i + k = m → But r B0 A → Num A r q wv ws (k0 + 4 * (i : Int)) → AccS B0.n A 5 (ints zn) tv → NarZ zs zn i → (∀ j, j < 19 → tget T j = tget T0 j) →
      tget T0 3 = .bool pt → tget T0 10 = fnN r q → tget T 19 = tv → tget T 87 = zv → tget T 88 = .int .i64 m → tget T 89 = .int .i64 i → W AP KL g rd (.loop body7s) ⟨T, D, A⟩ Q := by
  intro k
  induction k with
  | zero =>
    intro i T A tv zn hi hB S acc nar hT t3' t10' t19 t87 t88 t89
    have : i = m := by omega
    subst this
    rw [W_loop]
    simp (disch := as_aux_lemma => first | omega | simp only [hDs] <;> omega | simp [isCell]) [hRs, takeMarks, resA, resAll, resOne, Value.cells, body7s, t88, t89]
    refine hQ _ A tv zn hB S acc nar (fun j hj => ?_) (by simp [t19])
    simp only [tget_tset]
    rw [if_neg (by omega)]
    exact hT j hj
  | succ k ih =>
    intro i T A tv zn hi hB S acc nar hT t3' t10' t19 t87 t88 t89
    have t3 := (hT 3 (by omega)).trans t3'
    have t10 := (hT 10 (by omega)).trans t10'
    unfold fnN at t10
    obtain ⟨x, cx, rx, hxv, hx⟩ := (hrow A hB).at (i := i) (by omega)
    have hrl := (hrow A hB).1
    rw [ints_length] at hrl
    have nx := Hp.lt_of_get hx
    have hqr := S.qr
    have hr := S.nr
    obtain ⟨hz1, hz2⟩ := hz i (by omega)
    have hBn := hB.n
    rw [hxv] at t87
    rw [W_loop]
    simp (disch := as_aux_lemma => first | omega | simp only [hDs] <;> omega | simp [isCell]) [hRs, takeMarks, resA, resAll, resOne, Value.cells, body7s, t3, t10, t19, t87, t88, t89, show (i : Int) < m by omega, idxSA_ok, hx, ints_5, apartA, mem_capsN, storeB_cells, setRange_all, set_push_eq]
    refine w29 (S.ext (Ext'.push _ _)) (by omega) hws.len hws.rng hg fun a1 A1 ha1 S1 n1 bt1 => ?_
    refine w29 S1 (by omega) hws.len hws.rng hg fun a2 A2 ha2 S2 n2 bt2 => ?_
    refine w31 hz1.2.1 (by omega) (by omega) ha1 ha2 (Nat.le_refl _) fun l1 u1 A3 k3 hl1 hl2 hl3 => ?_
    have n0 : A1.n = A.n + 1 := n1
    have n3 := k3.1
    have hA3 : ∀ y, y < A.n + 1 → y ≠ r → A3.get y = (A.push (.cells [.int .i64 (gi zs (i * 5)), .int .i64 (gi zs (i * 5 + 1)), .int .i64 (gi zs (i * 5 + 2)), .int .i64 (gi zs (i * 5 + 3)), .int .i64 (gi zs (i * 5 + 4))] false)).get y := fun y hy hyr => by
      rw [k3.2 y (by omega), bt2.get y (by omega) hyr, bt1.get y (by show y < A.n + 1; omega) hyr]
    have c3 := (hA3 A.n (by omega) (by omega)).trans get_push_new
    simp (disch := as_aux_lemma => first | omega | simp only [hDs] <;> omega | simp [isCell]) [hRs, takeMarks, resA, resAll, resOne, Value.cells, spn, t3, t10, c3, apartA, mem_capsN]
    refine w29 (S2.ext k3) (by omega) hws.len hws.rng hg fun a3 A4 ha3 S4 n4 bt4 => ?_
    refine w29 S4 (by omega) hws.len hws.rng hg fun a4 A5 ha4 S5 n5 bt5 => ?_
    refine w31 hz2.2.1 (by omega) (by omega) ha3 ha4 (Nat.le_refl _) fun l2 u2 A6 k6 hl4 hl5 hl6 => ?_
    have n6 := k6.1
    have hA6 : ∀ y, y < A.n → y ≠ r → A6.get y = A.get y := fun y hy hyr => by
      rw [k6.2 y (by omega), bt5.get y (by omega) hyr, bt4.get y (by omega) hyr, hA3 y (by omega) hyr, get_push_old hy]
    have acc6 := AccS.mid acc (A' := A6) fun y h1 h2 => hA6 y h2 (by omega)
    obtain ⟨sv', A7, e, acc7, hold7, n7⟩ := acc6.add (g := g) (bytes := 40) (new := [.int .i64 (gi zs (i * 5)), .int .i64 l1, .int .i64 u1, .int .i64 l2, .int .i64 u2]) (ro := false) (n := i) (by omega) (by omega) rfl (by decide) rfl (by rw [ints_length, nar.1]) (by unfold room; omega)
    simp (disch := as_aux_lemma => first | omega | simp only [hDs] <;> omega | simp [isCell]) [hRs, takeMarks, resA, resAll, resOne, Value.cells, spn, t19, t89, fillA, setRange_all, setRange, storeB_cells, slitA, e, wrId (n := (i : Int) + 1) (by omega) (by omega)]
    have S7 : Num A7 r q wv ws (k0 + 4 * ((i + 1 : Nat) : Int)) := by
      have e2 : k0 + 4 * ((i + 1 : Nat) : Int) = k0 + 4 * (i : Int) + 1 + 1 + 1 + 1 := by omega
      rw [e2]
      refine (S5.ext k6).low (by omega) fun z hz => ?_
      rw [hold7 z (by omega)]
    refine ih (i + 1) _ _ sv' (zn ++ [gi zs (i * 5), l1, u1, l2, u2]) (by omega) ⟨by omega, fun z hz hzr => ?_⟩ S7 ?_ (nar.add rfl ⟨hl1, hl2, hl3⟩ ⟨hl4, hl5, hl6⟩) (fun j hj => ?_) t3' t10' ?_ ?_ ?_ ?_
    · rw [hold7 z hz, hA6 z (by omega) hzr, hB.get z hz hzr]
    · have ef : ints (zn ++ [gi zs (i * 5), l1, u1, l2, u2]) = ints zn ++ [.int .i64 (gi zs (i * 5)), .int .i64 l1, .int .i64 u1, .int .i64 l2, .int .i64 u2] := by simp [ints]
      rw [ef]
      exact acc7
    · simp only [tget_tset]
      repeat rw [if_neg (by omega)]
      exact hT j hj
    · simp
    · simp [t87, hxv]
    · simp [t88]
    · simp
end
end Go.Ab.Wave
namespace Go.Ab.Wave
open Go Go.Ab
structure NarP (W N : Par) : Prop where
  w : W.w = N.w
  h : W.h = N.h
  s : W.s = N.s
  gr : Nar W.l N.l W.l.length
  sea : W.slo ≤ N.slo ∧ N.slo ≤ N.shi ∧ N.shi ≤ W.shi
  keep : W.k0 ≤ N.k0 ∧ N.k0 ≤ N.k1 ∧ N.k1 ≤ W.k1
  land : W.l0 ≤ N.l0 ∧ N.l0 ≤ N.l1 ∧ N.l1 ≤ W.l1
  loss : W.o0 ≤ N.o0 ∧ N.o0 ≤ N.o1 ∧ N.o1 ≤ W.o1
section
variable {W N : Par} {zw zn : List Int} {n : Nat}
theorem NarP.gc (h : NarP W N) {c : Nat} (hc : c < W.l.length) : W.glo c ≤ N.glo c ∧ N.glo c ≤ N.ghi c ∧ N.ghi c ≤ W.ghi c := h.gr.2 c hc
theorem NarP.len (h : NarP W N) : W.l.length = N.l.length := h.gr.1.symm
theorem flat2_at : ∀ {l : List (Int × Int)} {p : Int × Int}, p ∈ l → ∃ j, j < l.length ∧ p.1 = gi (flat2 l) (j * 2) ∧ p.2 = gi (flat2 l) (j * 2 + 1)
  | q :: l, p, h => by
    rcases List.mem_cons.1 h with rfl | h
    · exact ⟨0, by simp, rfl, rfl⟩
    · obtain ⟨j, h1, h2, h3⟩ := flat2_at (l := l) h
      refine ⟨j + 1, by simpa using h1, ?_, ?_⟩
      · rw [h2, show (j + 1) * 2 = j * 2 + 2 by omega]; rfl
      · rw [h3, show (j + 1) * 2 + 1 = j * 2 + 1 + 2 by omega]; rfl
theorem NarP.ok (h : NarP W N) (hW : POk W) : POk N := by
  obtain ⟨p1, p2, p3, p4⟩ := check_parts hW.chk
  have a1 := hW.sea
  have a2 := hW.keep
  have a3 := hW.land
  have a4 := hW.loss
  have a5 := hW.small
  have b1 := h.sea
  have b2 := h.keep
  have b3 := h.land
  have b4 := h.loss
  have hl := h.len
  refine ⟨check_of (by rw [← h.w]; exact p1) (by rw [← h.h]; exact p2) (by rw [← h.s]; exact p3) (by rw [← h.w, ← h.h, ← hl]; exact p4) (fun p hp => ?_), by omega, by omega, by omega, by omega, by omega⟩
  obtain ⟨j, hj, e1, e2⟩ := flat2_at hp
  have := h.gc (c := j) (by omega)
  have g := hW.ground (c := j) (by omega)
  have e1' : p.1 = N.glo j := e1
  have e2' : p.2 = N.ghi j := e2
  omega
theorem NarZ.ok (h : NarZ zw zn n) (hl : W.l.length = N.l.length) (hz : StartOk W zw n) : StartOk N zn n := by
  refine ⟨h.1, fun i hi => ?_, fun i hi => ?_, fun i hi => ?_⟩
  · rw [(h.2 i hi).1, ← hl]; exact hz.cell i hi
  · have := hz.time i hi
    have := (h.2 i hi).2.1
    omega
  · have := hz.rise i hi
    have := (h.2 i hi).2.2
    omega
theorem NarP.at_in (h : NarP W N) (z : NarZ zw zn n) (oW : SprOk W zw n) (fW : SprFin W zw n) (oN : SprOk N zn n) (fN : SprFin N zn n) : In W N zw zn n ∧ Both (W.at true) (W.at true) zw zw n := by
  have b1 := h.sea
  have b2 := h.keep
  have b3 := h.land
  have b4 := h.loss
  have hl := h.len
  have gW : ∀ c, c < W.l.length → W.glo c ≤ W.ghi c := fun c hc => (oW.pl.ground (c := c) hc).2.1
  have gl : ∀ (P : Par) (b : Bool) (c : Nat), (P.at b).glo c = P.glo c := fun _ _ _ => rfl
  have gh : ∀ (P : Par) (b : Bool) (c : Nat), (P.at b).ghi c = P.ghi c := fun _ _ _ => rfl
  have dt : ∀ (P : Par) (c : Nat), (P.at true).dep c = P.shi - P.glo c := fun _ _ => rfl
  have df : ∀ (P : Par) (c : Nat), (P.at false).dep c = P.slo - P.ghi c := fun _ _ => rfl
  have lt : ∀ (P : Par) (c : Nat), (P.at true).lst c = P.slo - P.ghi c := fun _ _ => rfl
  have lf : ∀ (P : Par) (c : Nat), (P.at false).lst c = P.shi - P.glo c := fun _ _ => rfl
  refine ⟨⟨⟨?_, ?_, oW.ph, oN.ph, oW.zh, oN.zh, fW.fh, fN.fh⟩, ⟨?_, ?_, oN.pl, oW.pl, oN.zl, oW.zl, fN.fl, fW.fl⟩, ⟨?_, ?_, oN.ph, oN.pl, oN.zh, oN.zl, fN.fh, fN.fl⟩⟩, ⟨?_, ?_, oW.ph, oW.ph, oW.zh, oW.zh, fW.fh, fW.fh⟩⟩
  · refine ⟨fun _ => rfl, h.w, h.h, h.s, hl, fun c hc => ?_, fun c hc => ?_, fun c hc => ?_, b2.2.2, b3.1, b4.1, b1.2.2⟩
    · have := h.gc hc; rw [dt, dt]; omega
    · have := h.gc hc; rw [lt, lt]; omega
    · have := h.gc hc; show W.glo c ≤ N.glo c; omega
  · exact ⟨fun i hi => (z.2 i hi).1.symm, fun i hi => (z.2 i hi).2.1.1, fun i hi => (z.2 i hi).2.2.2.2⟩
  · refine ⟨fun h => h, h.w.symm, h.h.symm, h.s.symm, hl.symm, fun c hc => ?_, fun c hc => ?_, fun c hc => ?_, b2.1, b3.2.2, b4.2.2, b1.1⟩
    · have := h.gc (c := c) (by rw [hl]; exact hc); rw [df, df]; omega
    · have := h.gc (c := c) (by rw [hl]; exact hc); rw [lf, lf]; omega
    · have := h.gc (c := c) (by rw [hl]; exact hc); show N.ghi c ≤ W.ghi c; omega
  · exact ⟨fun i hi => (z.2 i hi).1, fun i hi => (z.2 i hi).2.1.2.2, fun i hi => (z.2 i hi).2.2.1⟩
  · refine ⟨fun h => (by cases h), rfl, rfl, rfl, rfl, fun c hc => ?_, fun c hc => ?_, fun c hc => ?_, b2.2.1, b3.2.1, b4.2.1, b1.2.1⟩
    · have := h.gc (c := c) (by rw [hl]; exact hc); rw [dt, df]; omega
    · have := h.gc (c := c) (by rw [hl]; exact hc); rw [lt, lf]; omega
    · have := h.gc (c := c) (by rw [hl]; exact hc); show N.glo c ≤ N.ghi c; omega
  · exact ⟨fun i hi => rfl, fun i hi => (z.2 i hi).2.1.2.1, fun i hi => (z.2 i hi).2.2.2.1⟩
  · exact ⟨fun h => h, rfl, rfl, rfl, rfl, fun c hc => Int.le_refl _, fun c hc => Int.le_refl _, fun c hc => Int.le_refl _, Int.le_refl _, Int.le_refl _, Int.le_refl _, Int.le_refl _⟩
  · exact ⟨fun i hi => rfl, fun i hi => Int.le_refl _, fun i hi => Int.le_refl _⟩
theorem in_bounds (h : NarP W N) (z : NarZ zw zn n) (oW : SprOk W zw n) (fW : SprFin W zw n) (oN : SprOk N zn n) (fN : SprFin N zn n) : ∀ c, c < W.l.length → ∀ r, (r = 0 ∨ r = 2 ∨ r = 4 ∨ r = 6) →
    gi (bounds W zw n) (c * 8 + r) ≤ gi (bounds N zn n) (c * 8 + r) ∧ gi (bounds N zn n) (c * 8 + r) ≤ gi (bounds N zn n) (c * 8 + r + 1) ∧ gi (bounds N zn n) (c * 8 + r + 1) ≤ gi (bounds W zw n) (c * 8 + r + 1) := by
  intro c hc r hr
  obtain ⟨I, B⟩ := h.at_in z oW fW oN fN
  have := (I.at hc B).row r hr
  unfold within2 at this
  have hcN : c < N.l.length := by rw [← h.len]; exact hc
  rw [show c * 8 + r + 1 = c * 8 + (r + 1) by omega, bounds_get hc (by omega), bounds_get hcN (by omega), bounds_get hc (by omega), bounds_get hcN (by omega)]
  exact this
end
end Go.Ab.Wave
namespace Go.Ab.Wave
open Go Go.Ab
section
variable {A : Hp} {n g : Nat} {sl lv : Value} {w hh s lo shi : Int} {l : List (Int × Int)} {zs : List Int} {V : Value → Hp → Prop}
theorem w22 (hl : groundOf A sl = some l) (hz : RdS A 8 n (ints zs) lv) (hn : n < 1000000) (hg : g ≤ A.n)
    (hQ : ∀ sv A', A.n ≤ A'.n → (∀ x, x < A.n → A'.get x = A.get x) → AccS A.n A' 1 (dryRes w hh s l lo shi n zs) sv → V (.tuple ⟨[sv, .int .i64 (dryErr w hh s l lo shi n)]⟩) A') :
    WF AP KL g 22 [gridV w hh s sl, spanV lo shi, lv] A V := by
  have hl1 := groundOf_push (b := .cells [.int .i64 lo, .int .i64 shi] false) (groundOf_push (b := .cells [.int .i64 w, .int .i64 hh, .int .i64 s, sl] false) hl)
  have hlen := (rd_ground hl).len
  rw [WF_body rfl (show AP 22 = some F22 from rfl)]
  by_cases h1 : checkG w hh s l = 0
  · by_cases h2 : inS lo shi (-20000) 20000 = true
    · by_cases h3 : n = l.length
      · have he : dryErr w hh s l lo shi n = 0 := by simp [dryErr, h1, h2, h3]
        have h2' := h2
        simp only [inS, Bool.and_eq_true, decide_eq_true_eq] at h2'
        simp (disch := as_aux_lemma => first | omega | simp only [hDs] <;> omega | simp [isCell]) [hRs, takeMarks, resA, resAll, resOne, Value.cells, gridV, spanV, J, WF_spec (show KL 40 = some S37 from rfl), S37_eq hl1, WF_spec (show KL 43 = some S42 from rfl), S42_eq', h1, h2, hz.len, hlen, show ((n : Int) = (l.length : Int)) by omega]
        refine loop22 (G := A.n) (S := A.n + 1) (n := n) (lv := lv) (gs := flat2 l) (zs := zs) (shi := shi) push2_a push2_b (by rw [h3]; exact (rd_ground hl).push.push) hz.push.push hn ?_ (by omega) (by omega) ?_ (fun T' A' sv' k1 k2 k3 k4 => ?_)
          n 0 _ _ (.slice none 0 0) (by omega) (Nat.le_refl _) (fun _ _ => rfl) AccS.nil ?_ ?_ ?_ ?_ ?_
        · exact Nat.le_trans hg (Nat.le_add_right A.n 2)
        · intro i hi
          obtain ⟨p, hp, e1, _⟩ := flat2_lo (l := l) (i := i) (by omega)
          have := check_ok h1 p hp
          rw [e1]; omega
        · simp (disch := as_aux_lemma => first | omega | simp only [hDs] <;> omega | simp [isCell]) [hRs, takeMarks, resA, resAll, resOne, Value.cells, k4]
          rw [he] at hQ
          refine hQ sv' A' (Nat.le_trans (Nat.le_add_right A.n 2) k1) (fun x hx => ?_) ?_
          · rw [k2 x (Nat.lt_of_lt_of_le hx (Nat.le_add_right A.n 2)), push2_old hx]
          · unfold dryRes; rw [if_pos he]; exact k3.weaken (Nat.le_add_right A.n 2)
        all_goals simp [h3]
      · have he : dryErr w hh s l lo shi n = 11 := by simp [dryErr, h1, h2, h3]
        simp (disch := as_aux_lemma => first | omega | simp only [hDs] <;> omega | simp [isCell]) [hRs, takeMarks, resA, resAll, resOne, Value.cells, gridV, spanV, J, WF_spec (show KL 40 = some S37 from rfl), S37_eq hl1, WF_spec (show KL 43 = some S42 from rfl), S42_eq', h1, h2, hz.len, hlen, show ¬ ((n : Int) = (l.length : Int)) by omega]
        rw [he] at hQ
        refine hQ _ _ ?_ (fun x hx => ?_) (.inl ⟨rfl, ?_⟩)
        · exact Nat.le_add_right A.n 2
        · exact push2_old hx
        · unfold dryRes; rw [if_neg (by omega)]
    · have he : dryErr w hh s l lo shi n = 3 := by simp [dryErr, h1, h2]
      simp (disch := as_aux_lemma => first | omega | simp only [hDs] <;> omega | simp [isCell]) [hRs, takeMarks, resA, resAll, resOne, Value.cells, gridV, spanV, J, WF_spec (show KL 40 = some S37 from rfl), S37_eq hl1, WF_spec (show KL 43 = some S42 from rfl), S42_eq', h1, h2, hz.len, hlen]
      rw [he] at hQ
      refine hQ _ _ ?_ (fun x hx => ?_) (.inl ⟨rfl, ?_⟩)
      · exact Nat.le_add_right A.n 2
      · exact push2_old hx
      · unfold dryRes; rw [if_neg (by omega)]
  · have he : dryErr w hh s l lo shi n = checkG w hh s l := by simp [dryErr, h1]
    simp (disch := as_aux_lemma => first | omega | simp only [hDs] <;> omega | simp [isCell]) [hRs, takeMarks, resA, resAll, resOne, Value.cells, gridV, spanV, J, WF_spec (show KL 40 = some S37 from rfl), S37_eq hl1, h1]
    rw [he] at hQ
    refine hQ _ _ ?_ (fun x hx => ?_) (.inl ⟨rfl, ?_⟩)
    · exact Nat.le_add_right A.n 2
    · exact push2_old hx
    · unfold dryRes; rw [if_neg (by omega)]
theorem loop4 {A0 : Hp} {T0 : List Value} {rd : Option Nat} {D : List Nat} {Q : Ex → St → Prop} (hl : RdS A0 8 n (ints zs) lv) (hn : n < 1000000) (hg : g ≤ A0.n)
    (hQ : ∀ T' A' sv', A0.n ≤ A'.n → (∀ x, x < A0.n → A'.get x = A0.get x) → AccS A0.n A' 8 (ints zs) sv' → (∀ i, i = 2 ∨ i = 3 ∨ i = 4 → tget T' i = tget T0 i) → tget T' 7 = sv' → Q (.exit 0) ⟨T', D, A'⟩) :
    ∀ (k i : Nat) (T : List Value) (A : Hp) (sv : Value), i + k = n → A0.n ≤ A.n → (∀ x, x < A0.n → A.get x = A0.get x) → AccS A0.n A 8 (ints (zs.take (i * 8))) sv → (∀ i, i = 2 ∨ i = 3 ∨ i = 4 → tget T i = tget T0 i) → tget T0 2 = lv →
      tget T 7 = sv → tget T 8 = .int .i64 i → W AP KL g rd (.loop body4) ⟨T, D, A⟩ Q := by
  have hzl := hl.1
  have hlen := hl.len
  rw [ints_length] at hzl
  intro k
  induction k with
  | zero =>
    intro i T A sv hi hn' hold hacc ht h2 h7 h8
    have : i = n := by omega
    subst this
    have h2' := (ht 2 (by omega)).trans h2
    rw [W_loop]
    simp (disch := as_aux_lemma => first | omega | simp only [hDs] <;> omega | simp [isCell]) [hRs, takeMarks, resA, resAll, resOne, Value.cells, body4, h2', h8, hlen]
    refine hQ _ _ sv hn' hold (by rw [← hzl, List.take_length] at hacc; exact hacc) (fun i hi => ?_) (by simp [h7])
    rcases hi with rfl | rfl | rfl <;> simp [ht]
  | succ k ih =>
    intro i T A sv hi hn' hold hacc ht h2 h7 h8
    have hl' := hl.mono hold
    have h2' := (ht 2 (by omega)).trans h2
    obtain ⟨y, yc, yr, rfl, hy⟩ := hl'.at (i := i) (by omega)
    obtain ⟨sv', A', e, hacc', hold', hn''⟩ := hacc.add (g := g) (bytes := 64) (new := [.int .i64 (gi zs (i * 8)), .int .i64 (gi zs (i * 8 + 1)), .int .i64 (gi zs (i * 8 + 2)), .int .i64 (gi zs (i * 8 + 3)), .int .i64 (gi zs (i * 8 + 4)), .int .i64 (gi zs (i * 8 + 5)), .int .i64 (gi zs (i * 8 + 6)), .int .i64 (gi zs (i * 8 + 7))]) (ro := false) (n := i) hg hn' rfl (by decide) rfl (by rw [ints_length, List.length_take]; omega) (by unfold room; omega)
    have hacc2 : AccS A0.n A' 8 (ints (zs.take ((i + 1) * 8))) sv' := by
      rw [show (i + 1) * 8 = i * 8 + 8 by omega, ← ints_take (by omega)]
      exact hacc'
    rw [W_loop]
    simp (disch := as_aux_lemma => first | omega | simp only [hDs] <;> omega | simp [isCell]) [hRs, takeMarks, resA, resAll, resOne, Value.cells, body4, h2', h7, h8, hlen, show ((i : Int) < n) by omega, show i < n by omega, idxSA_ok, hy, ints_two, Nat.add_assoc, slitA, fillA, setRange, e]
    trace_state
    refine ih (i + 1) _ A' sv' (by omega) (by omega) (fun x hx => by rw [hold' x hx, hold x hx]) hacc2 (fun i hi => ?_) h2 (by simp) (by simp [wrId (n := (i : Int) + 1) (by omega) (by omega)])
    rcases hi with rfl | rfl | rfl <;> simp [ht]
end
end Go.Ab.Wave
namespace Go.Ab.Wave
open Go Go.Ab
section
variable {A : Hp} {n g : Nat} {sl lv : Value} {w hh s lo shi : Int} {l : List (Int × Int)} {zs : List Int} {V : Value → Hp → Prop}
theorem dryRes_bls : ∃ bs : List Bool, dryRes w hh s l lo shi n zs = bls bs ∧ bs.length ≤ n := by
  unfold dryRes
  split
  · exact ⟨(List.range n).map fun i => dryB shi (flat2 l) zs i, by simp [dryL, bls], by simp⟩
  · exact ⟨[], rfl, by simp⟩
theorem w4 (hl : groundOf A sl = some l) (hz : RdS A 8 n (ints zs) lv) (hg : g ≤ A.n) (hQ : ∀ A', V (.bool true) A') : WF AP KL g 4 [gridV w hh s sl, spanV lo shi, lv] A V := by
  have hlen := (rd_ground hl).len
  rw [WF_body rfl (show AP 4 = some F4 from rfl)]
  by_cases h1 : l.length ≤ 100
  · by_cases h2 : n ≤ 110
    · simp (disch := as_aux_lemma => first | omega | simp only [hDs] <;> omega | simp [isCell]) [hRs, takeMarks, resA, resAll, resOne, Value.cells, gridV, spanV, J, hlen, hz.len, show ¬ ((100 : Int) < l.length) by omega, show ¬ ((110 : Int) < n) by omega]
      refine loop4 (n := n) (lv := lv) (zs := zs) hz.push.push (by omega) (Nat.le_trans hg (Nat.le_add_right A.n 2)) (fun T' A' sv' k1 k2 k3 k4 k5 => ?_) n 0 _ _ (.slice none 0 0) (by omega) (Nat.le_refl _) (fun _ _ => rfl) (by simp [ints]; exact AccS.nil) (fun _ _ => rfl) ?_ ?_ ?_
      · have q2 := k4 2 (by omega)
        have q3 := k4 3 (by omega)
        have q4 := k4 4 (by omega)
        simp at q2 q3 q4
        have a0 := (k2 A.n (by rw [push2_n]; omega)).trans push2_a
        have a1 := (k2 (A.n + 1) (by rw [push2_n]; omega)).trans push2_b
        have hz' : RdS A' 8 n (ints zs) lv := hz.push.push.mono k2
        have hp' : RdS A' 8 n (ints zs) sv' := k3.rd hz.1 (by decide)
        have hl' : groundOf A' sl = some l := groundOf_mono (groundOf_push (groundOf_push hl)) k2
        rw [push2_n] at k1
        simp (disch := as_aux_lemma => first | omega | simp only [hDs] <;> omega | simp [isCell]) [hRs, takeMarks, resA, resAll, resOne, Value.cells, q2, q3, q4, k5, a0, a1]
        refine w21 hl' hp' (by omega) (by omega) fun va B m1 m2 m3 => ?_
        have b0 := (m2 A.n (by omega)).trans a0
        have b1 := (m2 (A.n + 1) (by omega)).trans a1
        simp (disch := as_aux_lemma => first | omega | simp only [hDs] <;> omega | simp [isCell]) [hRs, takeMarks, resA, resAll, resOne, Value.cells, q2, q3, q4, k5, b0, b1]
        refine w22 (groundOf_mono hl' m2) (hz'.mono m2) (by omega) (by omega) fun vb C o1 o2 o3 => ?_
        obtain ⟨bs, hb, hbl⟩ := dryRes_bls (w := w) (hh := hh) (s := s) (l := l) (lo := lo) (shi := shi) (n := n) (zs := zs)
        have ha := ((hb ▸ m3).mono o2).rd (n := bs.length) (by simp [bls]) (by decide)
        have hb' := (hb ▸ o3).rd (n := bs.length) (by simp [bls]) (by decide)
        simp (disch := as_aux_lemma => first | omega | simp only [hDs] <;> omega | simp [isCell]) [hRs, takeMarks, resA, resAll, resOne, Value.cells]
        refine w23 ha hb' (by omega) ?_
        simp (disch := as_aux_lemma => first | omega | simp only [hDs] <;> omega | simp [isCell]) [hRs, takeMarks, resA, resAll, resOne, Value.cells, WF_spec (show KL 10 = some (memoSpec [mWorks]) from rfl), works_eq, hQ]
      all_goals simp
    · simp (disch := as_aux_lemma => first | omega | simp only [hDs] <;> omega | simp [isCell]) [hRs, takeMarks, resA, resAll, resOne, Value.cells, gridV, spanV, J, hlen, hz.len, show ¬ ((100 : Int) < l.length) by omega, show ((110 : Int) < n) by omega, WF_spec (show KL 10 = some (memoSpec [mWorks]) from rfl), works_eq, hQ]
  · simp (disch := as_aux_lemma => first | omega | simp only [hDs] <;> omega | simp [isCell]) [hRs, takeMarks, resA, resAll, resOne, Value.cells, gridV, spanV, J, hlen, hz.len, show ((100 : Int) < l.length) by omega, WF_spec (show KL 10 = some (memoSpec [mWorks]) from rfl), works_eq, hQ]
end
end Go.Ab.Wave
namespace Go.Ab.Wave
open Go Go.Ab
section
variable {g : Nat} {D : List Nat} {rd : Option Nat} {Q : Ex → St → Prop} {A : Hp} {V : Value → Hp → Prop}
end
end Go.Ab.Wave
namespace Go.Ab.Wave
open Go Go.Ab
section
variable {g : Nat} {D : List Nat} {rd : Option Nat} {Q : Ex → St → Prop} {A : Hp} {V : Value → Hp → Prop}
end
end Go.Ab.Wave
namespace Go.Ab.Wave
open Go Go.Ab
section
variable {P : Par} {zs : List Int} {n : Nat} {d M : Int}
end
end Go.Ab.Wave
namespace Go.Ab.Wave
open Go Go.Ab
theorem Coast.part {C : Coast} : partA C.cells 0 (some 12) = some (.agg ⟨C.cells⟩) := rfl
theorem rd_len {A : Hp} {sl : Value} {l : List (Int × Int)} (h : groundOf A sl = some l) : lenV sl = some (.int .i64 l.length) := by
  rcases (groundOf_cases h).2 with ⟨h1, h2⟩ | ⟨x, cap, ro, h1, _⟩
  · rw [h1, h2]; rfl
  · rw [h1]; rfl
section
variable {g : Nat} {A : Hp} {V : Value → Hp → Prop}
end
end Go.Ab.Wave
namespace Go.Ab.Wave
open Go Go.Ab
section
variable {g : Nat} {A : Hp} {V : Value → Hp → Prop}
theorem num_start {A : Hp} {wv : Value} {ws : List Int} {c0 : List Value} (hw : RdS A 1 ws.length (kints .u8 ws) wv) : Num (((A.push (.cells c0 false)).push (.cells [wv] false)).push (.cells [.int .i64 0] false)) (A.n + 2) (A.n + 1) wv ws 0 := by
  refine ⟨by simp, by omega, push3_c, push3_b, ?_⟩
  obtain ⟨h0, h | ⟨b, c, ro, h1, h2⟩⟩ := hw
  · exact .inl ⟨h.1, List.eq_nil_of_length_eq_zero h.2⟩
  · have := Hp.lt_of_get h2
    exact .inr ⟨b, c, ro, h1, by rw [push3_old this]; exact h2, by omega⟩
set_option maxHeartbeats 1000000 in
theorem w7 {C : Coast} {m : Nat} {ls ws : List Int} {lv wv : Value} {pt : Bool} (hC : C.Ok) (hAt : C.At A) (hg : g ≤ A.n) (hl : ∀ i, 0 ≤ gi ls i ∧ gi ls i ≤ 65535) (hr : RdS A 4 m (kints .u16 ls) lv) (hw : RdS A 1 ws.length (kints .u8 ws) wv) (hws : Ws ws) (hQ : ∀ A', V (.bool true) A') :
    WF AP KL g 7 [.agg ⟨C.cells⟩, lv, wv, .bool pt] A V := by
  have hlen := hr.len
  obtain ⟨wp, wn, wc, hwv⟩ : ∃ p n c, wv = .slice p n c := by
    obtain ⟨h0, h | ⟨b, c, ro, h1, h2⟩⟩ := hw
    · exact ⟨_, _, _, h.1⟩
    · exact ⟨_, _, _, h1⟩
  rw [WF_body rfl (show AP 7 = some F7 from rfl)]
  by_cases c1 : 5 < m
  · simp (disch := as_aux_lemma => first | omega | simp only [hDs] <;> omega | simp [isCell]) [hRs, takeMarks, resA, resAll, resOne, Value.cells, hlen, hwv, show (5 : Int) < m by omega, WF_spec (show KL 10 = some (memoSpec [mWorks]) from rfl), works_eq]
    exact hQ _
  simp (disch := as_aux_lemma => first | omega | simp only [hDs] <;> omega | simp [isCell]) [hRs, takeMarks, resA, resAll, resOne, Value.cells, hlen, hwv, show ¬ ((5 : Int) < m) by omega, Coast.cells, storeB_cells, setRange, set_push_eq]
  have wh := hC.wh
  obtain ⟨B, hB⟩ : ∃ B, B = ((A.push (.cells C.cells false)).push (.cells [wv] false)).push (.cells [.int .i64 0] false) := ⟨_, rfl⟩
  have kB : Ext' A B := by rw [hB]; exact ((Ext'.push _ _).trans (Ext'.push _ _)).trans (Ext'.push _ _)
  have nB : B.n = A.n + 3 := by rw [hB]; rfl
  have SB : Num B (A.n + 2) (A.n + 1) wv ws 0 := by rw [hB]; exact num_start hw
  have hB' : ((A.push (.cells [.int .u8 C.wd, .int .u8 C.hg, C.lowV, C.moreV, .int .i8 C.sea, .int .u8 C.seaM, .int .u16 C.k0, .int .u16 C.k1, .int .u16 C.l0, .int .u16 C.l1, .int .u8 C.o0, .int .u8 C.o1] false)).push (.cells [.slice wp wn wc] false)).push (.cells [.int .i64 0] false) = B := by rw [hB, hwv]; rfl
  rw [hB']
  have hcl : (.agg ⟨[.int .u8 C.wd, .int .u8 C.hg, C.lowV, C.moreV, .int .i8 C.sea, .int .u8 C.seaM, .int .u16 C.k0, .int .u16 C.k1, .int .u16 C.l0, .int .u16 C.l1, .int .u8 C.o0, .int .u8 C.o1]⟩ : Value) = .agg ⟨C.cells⟩ := rfl
  rw [hcl]
  refine w24 hC (hAt.mono kB.2) (by omega) fun A1 sl k1 acc1 => ?_
  obtain ⟨sp, sm, sc, hsl⟩ := acc1.isSlice
  obtain ⟨P, hP⟩ : ∃ P, P = C.P sl := ⟨_, rfl⟩
  have pl : P.l = C.gnd C.n := by rw [hP]; rfl
  have plen : P.l.length = C.n := by rw [pl, Coast.gnd_len]
  have psl : P.sl = sl := by rw [hP]; rfl
  have pok : POk P := by rw [hP]; exact coast_ok hC sl
  have hgr1 : groundOf A1 P.sl = some P.l := by rw [psl, pl]; exact AccS.ground acc1 (by rw [Coast.gnd_len]; omega)
  rw [← pl] at acc1
  have e0 : C.w = P.w ∧ C.h = P.h ∧ (500 : Int) = P.s := by rw [hP]; exact ⟨rfl, rfl, rfl⟩
  rw [← hP, e0.1, e0.2.1, e0.2.2, hsl]
  obtain ⟨B1, hB1⟩ : ∃ B1, B1 = ((A1.push (.cells [.int .i64 P.w, .int .i64 P.h, .int .i64 P.s, P.sl] false)).push (.cells [.int .i64 P.slo, .int .i64 P.shi] false)).push (.cells [.int .i64 P.k0, .int .i64 P.k1, .int .i64 P.l0, .int .i64 P.l1, .int .i64 P.o0, .int .i64 P.o1] false) := ⟨_, rfl⟩
  have kB1 : Ext' A1 B1 := by rw [hB1]; exact ((Ext'.push _ _).trans (Ext'.push _ _)).trans (Ext'.push _ _)
  have b7 : B1.get A1.n = some (.cells [.int .i64 P.w, .int .i64 P.h, .int .i64 P.s, P.sl] false) := by rw [hB1]; exact push3_a
  have b8 : B1.get (A1.n + 1) = some (.cells [.int .i64 P.slo, .int .i64 P.shi] false) := by rw [hB1]; exact push3_b
  have b9 : B1.get (A1.n + 2) = some (.cells [.int .i64 P.k0, .int .i64 P.k1, .int .i64 P.l0, .int .i64 P.l1, .int .i64 P.o0, .int .i64 P.o1] false) := by rw [hB1]; exact push3_c
  have nB1 : B1.n = A1.n + 3 := by rw [hB1]; rfl
  have n1 := k1.1
  have hB1' := hB1
  rw [psl, hsl] at hB1'
  simp (disch := as_aux_lemma => first | omega | simp only [hDs] <;> omega | simp [isCell]) [hRs, takeMarks, resA, resAll, resOne, Value.cells, gridV, spn, modelV, J, set_push_eq, storeB_cells, setRange_all]
  rw [← hB1']
  rw [← hsl, ← psl]
  have hn : 0 < P.l.length ∧ P.l.length < 1000000 := by omega
  refine w30 (n := P.l.length) (m := m) (ls := ls) (by omega) hn (by omega) hl (rd_len (groundOf_mono hgr1 kB1.2)) (hr.mono fun x hx => ?_) fun A2 zv k2 acc2 => ?_
  · rw [kB1.2 x (by omega), k1.2 x (by omega), kB.2 x hx]
  obtain ⟨zs, hzs⟩ : ∃ zs, zs = stZ P.l.length ls m := ⟨_, rfl⟩
  have zok : StartOk P zs m := by rw [hzs]; exact stZ_ok (by omega) hl
  rw [← hzs] at acc2
  have hgr2 := groundOf_mono hgr1 (kB1.trans k2).2
  have c7 := k2.get b7
  have c8 := k2.get b8
  have c9 := k2.get b9
  have n2 := k2.1
  have S2 := ((SB.ext k1).ext kB1).ext k2
  have lsl := rd_len hgr2
  have hps : P.sl = .slice sp sm sc := by rw [psl, hsl]
  rw [hps] at c7 lsl
  simp (disch := as_aux_lemma => first | omega | simp only [hDs] <;> omega | simp [isCell]) [hRs, takeMarks, resA, resAll, resOne, Value.cells, c7, c8, c9, storeB_cells, setRange_all, setRange, set_push_eq, lsl, hps]
  have hb : ∀ j, -1000000000 ≤ gi (flat2 P.l) j ∧ gi (flat2 P.l) j ≤ 1000000000 := fun j => by
    by_cases hj : j / 2 < P.l.length
    · have := pok.ground hj
      unfold Par.glo Par.ghi at this
      rcases Nat.mod_two_eq_zero_or_one j with h | h
      · rw [show j / 2 * 2 = j by omega] at this; omega
      · rw [show j / 2 * 2 + 1 = j by omega] at this; omega
    · have e : gi (flat2 P.l) j = 0 := by
        unfold gi
        rw [List.getD_eq_getElem?_getD, List.getElem?_eq_none (by rw [flat2_length]; omega)]; rfl
      rw [e]; omega
  have hz1 : zs.length = m * 5 := zok.len
  refine loop7g (B0 := A2.push (.cells [.int .i64 P.w, .int .i64 P.h, .int .i64 P.s, .slice none 0 0] false)) (r := A.n + 2) (q := A.n + 1) (y := A2.n) (wv := wv) (sl := sl) (ws := ws) (L := P.l) (w := P.w) (h := P.h) (s := P.s) (pt := pt) (fun j hj => (pok.ground hj).2.1) hb (by omega) hws
    (fun A' hA' => ?_) (by omega) (by omega) (by simp) (fun T' A3 sv G bu3 S3 g3 acc3 nar3 hT => ?_) P.l.length 0 _ _ (.slice none 0 0) [] (by omega) Bu2.refl (S2.ext (Ext'.push _ _)) get_push_new AccS.nil Nar.nil (fun _ _ => rfl) ?_ ?_ ?_ ?_ ?_ ?_
  · refine AccS.rd (AccS.mid acc1 fun x h1 h2 => ?_) (by rw [ints_length, flat2_length]) (by decide)
    rw [hA'.get x (by simp; omega) (by omega) (by omega), get_push_old (by omega), k2.2 x (by omega), kB1.2 x h2]
  · have q3 := hT 3 (by omega)
    have q10 := hT 10 (by omega)
    have q11 := hT 11 (by omega)
    have q12 := hT 12 (by omega)
    have q13 := hT 13 (by omega)
    have q14 := hT 14 (by omega)
    have q15 := hT 15 (by omega)
    simp at q3 q10 q11 q12 q13 q14 q15
    replace q10 : tget T' 10 = .func (.func 29) ⟨[]⟩ ⟨[.pointer (some ⟨A.n + 2, 0, none⟩), .pointer (some ⟨A.n + 1, 0, none⟩)]⟩ := q10
    have n3 := bu3.n
    rw [Hp.n_push] at n3
    have d7 := bu3.at ((get_push_old (by omega)).trans c7) (by omega) (by omega)
    have d8 := bu3.at ((get_push_old (by omega)).trans c8) (by omega) (by omega)
    have d9 := bu3.at ((get_push_old (by omega)).trans c9) (by omega) (by omega)
    have pk := pok.keep
    have pd := pok.land
    have po := pok.loss
    have ps := pok.sea
    have lP : (P.l.length : Int) ≤ 16 := by omega
    simp (disch := as_aux_lemma => first | omega | simp only [hDs] <;> omega | simp [isCell]) [hRs, takeMarks, resA, resAll, resOne, Value.cells, q3, q10, q13, d9, apartA, mem_capsN]
    refine w29 S3 (by omega) hws.len hws.rng (by omega) fun a1 A4 ha1 S4 n4 bt4 => ?_
    refine w29 S4 (by omega) hws.len hws.rng (by omega) fun a2 A5 ha2 S5 n5 bt5 => ?_
    refine w31 pk.2.1 (by omega) (by omega) ha1 ha2 (Nat.le_refl _) fun x1 y1 A6 k6 ki1 ki2 ki3 => ?_
    have bu6 := (bt4.trans bt5).trans (But.of_ext k6)
    have n6 := bu6.n
    have e9 := bu6.at d9 (by omega)
    simp (disch := as_aux_lemma => first | omega | simp only [hDs] <;> omega | simp [isCell]) [hRs, takeMarks, resA, resAll, resOne, Value.cells, spn, q3, q10, q13, e9, apartA, mem_capsN]
    refine w29 (S5.ext k6) (by omega) hws.len hws.rng (by omega) fun a3 A7 ha3 S7 n7 bt7 => ?_
    refine w29 S7 (by omega) hws.len hws.rng (by omega) fun a4 A8 ha4 S8 n8 bt8 => ?_
    refine w31 pd.2.1 (by omega) (by omega) ha3 ha4 (Nat.le_refl _) fun x2 y2 A9 k9 kd1 kd2 kd3 => ?_
    have bu9 := (bt7.trans bt8).trans (But.of_ext k9)
    have n9 := bu9.n
    have h9 := bu9.at e9 (by omega)
    simp (disch := as_aux_lemma => first | omega | simp only [hDs] <;> omega | simp [isCell]) [hRs, takeMarks, resA, resAll, resOne, Value.cells, spn, q3, q10, q13, h9, apartA, mem_capsN]
    refine w29 (S8.ext k9) (by omega) hws.len hws.rng (by omega) fun a5 A10 ha5 S10 n10 bt10 => ?_
    refine w29 S10 (by omega) hws.len hws.rng (by omega) fun a6 A11 ha6 S11 n11 bt11 => ?_
    refine w31 po.2.1 (by omega) (by omega) ha5 ha6 (Nat.le_refl _) fun x3 y3 A12 k12 ko1 ko2 ko3 => ?_
    have bu12 := (bt10.trans bt11).trans (But.of_ext k12)
    have n12 := bu12.n
    have S12 := S11.ext k12
    obtain ⟨k0, hk0⟩ : ∃ k0 : Int, k0 = 2 * (P.l.length : Int) + 1 + 1 + 1 + 1 + 1 + 1 := ⟨_, rfl⟩
    rw [← hk0] at S12
    have bu3C : But (A.n + 2) A3 A12 := (bu6.trans bu9).trans bu12
    have hmid : ∀ x, A1.n ≤ x → x < A2.n → A12.get x = A2.get x := fun x h1 h2 => by
      rw [bu3C.get x (by omega) (by omega), bu3.get x (by simp; omega) (by omega) (by omega), get_push_old h2]
    have rz2 : RdS A2 5 m (ints zs) zv := acc2.rd (by rw [ints_length, hz1]) (by decide)
    have lz := rz2.len
    simp (disch := as_aux_lemma => first | omega | simp only [hDs] <;> omega | simp [isCell]) [hRs, takeMarks, resA, resAll, resOne, Value.cells, spn, q14, lz, fillA, setRange, setRange_all, storeB_cells, set_push_eq]
    refine loop7s (B0 := A12.push (.cells [.int .i64 x1, .int .i64 y1, .int .i64 x2, .int .i64 y2, .int .i64 x3, .int .i64 y3] false)) (r := A.n + 2) (q := A.n + 1) (k0 := k0) (wv := wv) (zv := zv) (ws := ws) (zs := zs) (m := m) (pt := pt) (fun i hi => ⟨zok.time i hi, zok.rise i hi⟩) (by omega) (by omega) hws
      (fun A' hA' => ?_) (by omega) (by simp; omega) (fun T2 A13 tv zn bu13 S13 acc13 nar13 hT2 t19 => ?_) m 0 _ _ (.slice none 0 0) [] (by omega) But.refl ?_ AccS.nil NarZ.nil (fun _ _ => rfl) ?_ ?_ ?_ ?_ ?_ ?_
    · refine AccS.rd (AccS.mid acc2 fun x h1 h2 => ?_) (by rw [ints_length, hz1]) (by decide)
      rw [hA'.get x (by simp; omega) (by omega), get_push_old (by omega), hmid x (by omega) h2]
    · have u3 := hT2 3 (by omega)
      have u10 := hT2 10 (by omega)
      have u11 := hT2 11 (by omega)
      have u12 := hT2 12 (by omega)
      have u13 := hT2 13 (by omega)
      have u14 := hT2 14 (by omega)
      have u15 := hT2 15 (by omega)
      have u18 := hT2 18 (by omega)
      simp [q3] at u3
      simp [q10] at u10
      simp [q11] at u11
      simp [q12] at u12
      simp [q13] at u13
      simp [q14] at u14
      simp [q15] at u15
      simp at u18
      have n13 := bu13.n
      rw [Hp.n_push] at n13
      have bu3D : But (A.n + 2) A3 A13 := (bu3C.trans (But.of_ext (Ext'.push _ _))).trans bu13
      rw [← hps] at d7
      have f7 := bu3D.at d7 (by omega)
      have f8 := bu3D.at d8 (by omega)
      have f9 := bu3D.at d9 (by omega)
      have f15 := bu3D.at g3 (by omega)
      have f18 := bu13.at get_push_new (by omega)
      have hmid1 : ∀ x, B.n ≤ x → x < A1.n → A13.get x = A1.get x := fun x h1 h2 => by
        rw [bu3D.get x (by omega) (by omega), bu3.get x (by simp; omega) (by omega) (by omega), get_push_old (by omega), k2.2 x (by omega), kB1.2 x h2]
      have hmid2 : ∀ x, A1.n ≤ x → x < A2.n → A13.get x = A2.get x := fun x h1 h2 => by
        rw [bu13.get x (by simp; omega) (by omega), get_push_old (by omega), hmid x h1 h2]
      have hgrD : groundOf A13 P.sl = some P.l := by rw [psl]; exact AccS.ground (AccS.mid acc1 hmid1) (by omega)
      have rzD : RdS A13 5 m (ints zs) zv := AccS.rd (AccS.mid acc2 fun x h1 h2 => hmid2 x (by omega) h2) (by rw [ints_length, hz1]) (by decide)
      simp (disch := as_aux_lemma => first | omega | simp only [hDs] <;> omega | simp [isCell]) [hRs, takeMarks, resA, resAll, resOne, Value.cells, u11, u12, u13, u14, f7, f8, f9]
      refine w27 (P := P) (zs := zs) (n := m) pok.small hgrD (by omega) rzD (by omega) fun A14 bv k14 acc14 fin14 => ?_
      have hE := sprE_ok pok zok (show m ≤ 512 by omega)
      obtain ⟨zo, zf⟩ := fin14 hE
      have er : sprRes P zs m = bounds P zs m := by unfold sprRes; rw [if_pos hE]
      rw [er] at acc14
      rw [hE]
      have rb14 : RdS A14 8 P.l.length (ints (bounds P zs m)) bv := acc14.rd (by rw [ints_length, bounds_len]) (by decide)
      have n14 := k14.1
      have o7 := k14.get f7
      have o8 := k14.get f8
      have o15 := k14.get f15
      have o18 := k14.get f18
      simp (disch := as_aux_lemma => first | omega | simp only [hDs] <;> omega | simp [isCell]) [hRs, takeMarks, resA, resAll, resOne, Value.cells, u3, u10, u12, u15, u18, o8, o15, o18, apartA, mem_capsN]
      refine w29 (S13.ext k14) (by omega) hws.len hws.rng (by omega) fun a7 A15 ha7 S15 n15 bt15 => ?_
      refine w29 S15 (by omega) hws.len hws.rng (by omega) fun a8 A16 ha8 S16 n16 bt16 => ?_
      refine w31 ps.2.1 (by omega) (by omega) ha7 ha8 (Nat.le_refl _) fun x0 y0 A17 k17 ks1 ks2 ks3 => ?_
      have bu17 := (bt15.trans bt16).trans (But.of_ext k17)
      have n17 := bu17.n
      have p7 := bu17.at o7 (by omega)
      have p18 := bu17.at o18 (by omega)
      have hNP : NarP P ⟨false, P.w, P.h, P.s, sv, G, x0, y0, x1, y1, x2, y2, x3, y3⟩ := ⟨rfl, rfl, rfl, nar3, ⟨ks1, ks2, ks3⟩, ⟨ki1, ki2, ki3⟩, ⟨kd1, kd2, kd3⟩, ⟨ko1, ko2, ko3⟩⟩
      have okN := hNP.ok pok
      have zokN := nar13.ok hNP.len zok
      have bu3E : But (A.n + 2) A3 A17 := (bu3D.trans (But.of_ext k14)).trans bu17
      have hgrN : groundOf A17 sv = some G := AccS.ground (AccS.mid acc3 fun x h1 h2 => bu3E.get x h2 (by rw [Hp.n_push] at h1; omega)) (by rw [nar3.1]; omega)
      have rzN : RdS A17 5 m (ints zn) tv := AccS.rd (AccS.mid acc13 fun x h1 h2 => by rw [Hp.n_push] at h1; rw [bu17.get x (by omega) (by omega), k14.2 x h2]) (by rw [ints_length, nar13.1]) (by decide)
      simp (disch := as_aux_lemma => first | omega | simp only [hDs] <;> omega | simp [isCell]) [hRs, takeMarks, resA, resAll, resOne, Value.cells, spn, u10, u18, p18, t19, apartA, mem_capsN]
      refine w27 (P := ⟨false, P.w, P.h, P.s, sv, G, x0, y0, x1, y1, x2, y2, x3, y3⟩) (zs := zn) (n := m) okN.small hgrN (by omega) rzN (by omega) fun A18 nv k18 acc18 fin18 => ?_
      have hEN := sprE_ok okN zokN (show m ≤ 512 by omega)
      obtain ⟨zoN, zfN⟩ := fin18 hEN
      have erN : sprRes ⟨false, P.w, P.h, P.s, sv, G, x0, y0, x1, y1, x2, y2, x3, y3⟩ zn m = bounds ⟨false, P.w, P.h, P.s, sv, G, x0, y0, x1, y1, x2, y2, x3, y3⟩ zn m := by unfold sprRes; rw [if_pos hEN]
      rw [erN] at acc18
      rw [hEN]
      have r7 := k18.get p7
      have rb18 : RdS A18 8 P.l.length (ints (bounds ⟨false, P.w, P.h, P.s, sv, G, x0, y0, x1, y1, x2, y2, x3, y3⟩ zn m)) nv := acc18.rd (by rw [ints_length, bounds_len, hNP.len]) (by decide)
      have rbW : RdS A18 8 P.l.length (ints (bounds P zs m)) bv := AccS.rd (AccS.mid acc14 fun x h1 h2 => by rw [k18.2 x (by omega), bu17.get x h2 (by omega)]) (by rw [ints_length, bounds_len]) (by decide)
      have lb := rb14.len
      have hin := in_bounds hNP nar13 zo zf zoN zfN
      simp (disch := as_aux_lemma => first | omega | simp only [hDs] <;> omega | simp [isCell]) [hRs, takeMarks, resA, resAll, resOne, Value.cells, u11, r7, lb, lsl, hps]
      refine w26 (by omega) rb18 rbW hin fun A19 k19 => ?_
      simp (disch := as_aux_lemma => first | omega | simp only [hDs] <;> omega | simp [isCell]) [hRs, takeMarks, resA, resAll, resOne, Value.cells, WF_spec (show KL 10 = some (memoSpec [mWorks]) from rfl), works_eq]
      exact hQ _
    · rw [show k0 + 4 * ((0 : Nat) : Int) = k0 by omega]; exact S12.ext (Ext'.push _ _)
    · simp [q3]
    · simp [q10, fnN]
    · simp
    · simp [q14]
    · simp
    · simp
  · simp
  · rfl
  · simp [ptrV]
  · simp [hsl]
  · simp
  · simp
end
end Go.Ab.Wave
namespace Go.Ab.Wave
open Go Go.Ab
def allK (k : IntKind) : Ty → Bool
  | .int k' => decide (k' = k)
  | .unit => true
  | .pair a b => allK k a && allK k b
  | _ => false
theorem kints_append {k : IntKind} (a b : List Int) : kints k (a ++ b) = kints k a ++ kints k b := List.map_append ..
theorem sh_k {rows : List (List Value)} {k : IntKind} : ∀ {t : Ty} {cs : List Value}, allK k t = true → Sh rows t cs → ∃ zs : List Int, cs = kints k zs ∧ ∀ z ∈ zs, k.min ≤ z ∧ z ≤ k.max
  | .int k', cs, h, ⟨n, hn, hw⟩ => by
    have e : k' = k := by simpa [allK] using h
    subst e
    exact ⟨[n], hn, fun z hz => by rw [List.mem_singleton] at hz; subst hz; exact (Lit.wf_int_iff k' z).1 hw⟩
  | .unit, cs, _, h => ⟨[], h, fun z hz => by cases hz⟩
  | .pair a b, cs, h, ⟨l, r, h1, h2, h3⟩ => by
    simp only [allK, Bool.and_eq_true] at h
    obtain ⟨za, ea, ba⟩ := sh_k h.1 h2
    obtain ⟨zb, eb, bb⟩ := sh_k h.2 h3
    refine ⟨za ++ zb, by rw [h1, ea, eb, kints_append], fun z hz => ?_⟩
    rcases List.mem_append.1 hz with h' | h'
    · exact ba z h'
    · exact bb z h'
  | .bool, _, h, _ => by simp [allK] at h
  | .str, _, h, _ => by simp [allK] at h
  | .slice _, _, h, _ => by simp [allK] at h
theorem kints_flatMap {k : IntKind} {f : Nat → List Int} {n : Nat} : (List.range n).flatMap (fun i => kints k (f i)) = kints k ((List.range n).flatMap f) := by
  simp only [kints, List.map_flatMap]
theorem sh_slice_k {rows : List (List Value)} {k : IntKind} {e : Ty} {cs : List Value} (he : allK k e = true) (h : Sh rows (.slice e) cs) :
    ∃ (n : Nat) (zs : List Int) (sl : Value), cs = [sl] ∧ RdS (roHp rows) e.size n (kints k zs) sl ∧ n ≤ maxLen ∧ ∀ z ∈ zs, k.min ≤ z ∧ z ≤ k.max := by
  rcases h with rfl | ⟨x, n, q, row, rfl, hn, hrow, hlen, hs, f, rfl, hf⟩
  · exact ⟨0, [], _, rfl, ⟨by simp [kints], .inl ⟨rfl, rfl⟩⟩, Nat.zero_le _, fun z hz => by cases hz⟩
  · obtain ⟨p, hp⟩ := Go.Deep.choose_lt (α := List Int) (p := fun i p => f i = kints k p ∧ ∀ z ∈ p, k.min ≤ z ∧ z ≤ k.max) fun i hi => sh_k he (hf i hi).1
    have e1 : (List.range n).flatMap f = kints k ((List.range n).flatMap p) := by
      rw [← kints_flatMap]
      exact Go.Deep.flatMap_congr_range fun i hi => (hp i hi).1
    refine ⟨n, (List.range n).flatMap p, _, rfl, ⟨by rw [← e1, hlen], .inr ⟨x, q, true, rfl, by rw [roHp_get, hrow, ← e1]; rfl⟩⟩, hn, fun z hz => ?_⟩
    obtain ⟨i, hi, hz⟩ := List.mem_flatMap.1 hz
    exact (hp i (by simpa using hi)).2 z hz
theorem gi_rng {l : List Int} {a b : Int} (h : ∀ z ∈ l, a ≤ z ∧ z ≤ b) (ha : a ≤ 0) (hb : 0 ≤ b) (i : Nat) : a ≤ gi l i ∧ gi l i ≤ b := by
  unfold gi
  rw [List.getD_eq_getElem?_getD]
  rcases Nat.lt_or_ge i l.length with hi | hi
  · rw [List.getElem?_eq_getElem hi]
    exact h _ (List.getElem_mem hi)
  · rw [List.getElem?_eq_none hi]
    exact ⟨ha, hb⟩
def tCoast : Ty := .pair (.int .u8) (.pair (.int .u8) (.pair (.slice (.int .i16)) (.pair (.slice (.int .u8)) (.pair (.int .i8) (.pair (.int .u8) (.pair (.rep 2 (.int .u16)) (.pair (.rep 2 (.int .u16)) (.pair (.rep 2 (.int .u8)) .unit))))))))
theorem sh_int {rows : List (List Value)} {k : IntKind} {cs : List Value} (h : Sh rows (.int k) cs) : ∃ n, cs = [.int k n] ∧ k.min ≤ n ∧ n ≤ k.max := by
  obtain ⟨n, h1, h2⟩ := h
  exact ⟨n, h1, (Lit.wf_int_iff k n).1 h2⟩
theorem sh_two {rows : List (List Value)} {k : IntKind} {cs : List Value} (h : Sh rows (.rep 2 (.int k)) cs) : ∃ a b, cs = [.int k a, .int k b] ∧ (k.min ≤ a ∧ a ≤ k.max) ∧ k.min ≤ b ∧ b ≤ k.max := by
  obtain ⟨_, _, rfl, h1, ⟨_, _, rfl, h2, rfl⟩⟩ := h
  obtain ⟨a, rfl, ha⟩ := sh_int h1
  obtain ⟨b, rfl, hb⟩ := sh_int h2
  exact ⟨a, b, rfl, ha, hb⟩
theorem sh_coast {rows : List (List Value)} {cs : List Value} (h : Sh rows tCoast cs) : ∃ C : Coast, mkV tCoast cs = .agg ⟨C.cells⟩ ∧ C.Ok ∧ C.At (roHp rows) := by
  obtain ⟨_, _, rfl, h1, ⟨_, _, rfl, h2, ⟨_, _, rfl, h3, ⟨_, _, rfl, h4, ⟨_, _, rfl, h5, ⟨_, _, rfl, h6, ⟨_, _, rfl, h7, ⟨_, _, rfl, h8, ⟨_, _, rfl, h9, rfl⟩⟩⟩⟩⟩⟩⟩⟩⟩ := h
  obtain ⟨a1, rfl, b1⟩ := sh_int h1
  obtain ⟨a2, rfl, b2⟩ := sh_int h2
  obtain ⟨n3, z3, s3, rfl, r3, m3, b3⟩ := sh_slice_k (k := .i16) rfl h3
  obtain ⟨n4, z4, s4, rfl, r4, m4, b4⟩ := sh_slice_k (k := .u8) rfl h4
  obtain ⟨a5, rfl, b5⟩ := sh_int h5
  obtain ⟨a6, rfl, b6⟩ := sh_int h6
  obtain ⟨a7, c7, rfl, b7, d7⟩ := sh_two h7
  obtain ⟨a8, c8, rfl, b8, d8⟩ := sh_two h8
  obtain ⟨a9, c9, rfl, b9, d9⟩ := sh_two h9
  have l3 : z3.length = n3 := by have := r3.1; rw [kints_length] at this; simpa [Ty.size] using this
  have l4 : z4.length = n4 := by have := r4.1; rw [kints_length] at this; simpa [Ty.size] using this
  have hm : maxLen ≤ 9223372036854775807 := by decide
  refine ⟨⟨a1, a2, s3, s4, a5, a6, a7, c7, a8, c8, a9, c9, z3, z4⟩, rfl, ⟨b1, b2, b5, b6, b7, d7, b8, d8, b9, d9, fun i => gi_rng b3 (by decide) (by decide) i, fun i => gi_rng b4 (by decide) (by decide) i, by show z3.length ≤ _; omega, by show z4.length ≤ _; omega⟩, ⟨?_, ?_⟩⟩
  · show RdS (roHp rows) 1 z3.length (kints .i16 z3) s3
    rw [l3]; exact r3
  · show RdS (roHp rows) 1 z4.length (kints .u8 z4) s4
    rw [l4]; exact r4
end Go.Ab.Wave
