/- WaveAny: the loop over the sources; the loop over the ends. -/
import Derived.Test.YtmmpjfknmdlpoaaZ18
import Derived.Test.YtmmpjfknmdlpoaaZ14
set_option linter.unusedSimpArgs false
set_option linter.unusedVariables false
set_option linter.unusedSectionVars false
namespace Go.Ab.Wave
open Go Go.Ab
def st1 (n : Nat) (ls : List Int) (i : Nat) : List Int := [(gi ls (i * 4)).tmod n, gi ls (i * 4 + 1) * 10, gi ls (i * 4 + 1) * 10 + gi ls (i * 4 + 3), (gi ls (i * 4 + 2)).tmod 4000, (gi ls (i * 4 + 2)).tmod 4000 + (gi ls (i * 4 + 3)).tmod 900]
theorem tmod_rng {a m : Int} (ha : 0 ≤ a) (hm : 0 < m) : 0 ≤ a.tmod m ∧ a.tmod m < m := ⟨Int.tmod_nonneg _ ha, Int.tmod_lt_of_pos _ hm⟩
section
variable {g : Nat} {D : List Nat} {rd : Option Nat} {Q : Ex → St → Prop} {A : Hp} {V : Value → Hp → Prop}
theorem w50 {a b c d : Int} (h1 : c ≤ a) (h2 : b ≤ d) (h3 : a ≤ b) (hQ : ∀ A', Ext' A A' → V (.bool true) A') : WF AP KL g 50 [spn a b, spn c d] A V := by
  rw [WF_body rfl (show AP 50 = some F50 from rfl)]
  simp (disch := as_aux_lemma => first | omega | simp only [hDs] <;> omega | simp [isCell]) [hRs, takeMarks, resA, resAll, resOne, Value.cells, spn, h1, h2, h3]
  exact hQ _ ((Ext'.push _ _).trans (Ext'.push _ _))
theorem loop26 {A0 : Hp} {a b : List Int} {m : Nat} {va vb : Value} {T0 : List Value} (hm : m < 1000000) (ha : RdS A0 8 m (ints a) va) (hb : RdS A0 8 m (ints b) vb) (hin : ∀ c, c < m → ∀ r, (r = 0 ∨ r = 2 ∨ r = 4 ∨ r = 6) → gi b (c * 8 + r) ≤ gi a (c * 8 + r) ∧ gi a (c * 8 + r) ≤ gi a (c * 8 + r + 1) ∧ gi a (c * 8 + r + 1) ≤ gi b (c * 8 + r + 1))
    (hQ : ∀ T' A', Ext' A0 A' → Q (.exit 0) ⟨T', D, A'⟩) :
    ∀ (k i : Nat) (T : List Value) (A : Hp), i + k = m → Ext' A0 A → tget T 0 = va → tget T 1 = vb → tget T 12 = .int .i64 m → tget T 13 = .int .i64 i → W AP KL g rd (.loop body26) ⟨T, D, A⟩ Q := by
  intro k
  have hal : a.length = m * 8 := by have := ha.1; rwa [ints_length] at this
  have hbl : b.length = m * 8 := by have := hb.1; rwa [ints_length] at this
  induction k with
  | zero =>
    intro i T A hi kA t0 t1 t12 t13
    have : i = m := by omega
    subst this
    rw [W_loop]
    simp (disch := as_aux_lemma => first | omega | simp only [hDs] <;> omega | simp [isCell]) [hRs, takeMarks, resA, resAll, resOne, Value.cells, body26, t12, t13]
    exact hQ _ A kA
  | succ k ih =>
    intro i T A hi kA t0 t1 t12 t13
    obtain ⟨x, cx, rx, hxv, hx⟩ := (ha.mono kA.2).at (i := i) (by omega)
    obtain ⟨y, cy, ry, hyv, hy⟩ := (hb.mono kA.2).at (i := i) (by omega)
    have i0 := hin i (by omega) 0 (by omega)
    have i2 := hin i (by omega) 2 (by omega)
    have i4 := hin i (by omega) 4 (by omega)
    have i6 := hin i (by omega) 6 (by omega)
    rw [hxv] at t0
    rw [hyv] at t1
    rw [W_loop]
    simp (disch := as_aux_lemma => first | omega | simp only [hDs] <;> omega | simp [isCell]) [hRs, takeMarks, resA, resAll, resOne, Value.cells, body26, t12, t13, show (i : Int) < m by omega, t0, t1, idxSA_ok, hx, hy, ints_two]
    refine w50 i0.1 i0.2.2 i0.2.1 fun A1 k1 => ?_
    have hx1 := k1.get hx
    have hy1 := k1.get hy
    simp (disch := as_aux_lemma => first | omega | simp only [hDs] <;> omega | simp [isCell]) [hRs, takeMarks, resA, resAll, resOne, Value.cells, t0, t1, t13, show (i : Int) < m by omega, idxSA_ok, hx1, hy1, ints_two]
    refine w50 i2.1 i2.2.2 i2.2.1 fun A2 k2 => ?_
    have hx2 := k2.get hx1
    have hy2 := k2.get hy1
    simp (disch := as_aux_lemma => first | omega | simp only [hDs] <;> omega | simp [isCell]) [hRs, takeMarks, resA, resAll, resOne, Value.cells, t0, t1, t13, show (i : Int) < m by omega, idxSA_ok, hx2, hy2, ints_two]
    refine w50 i4.1 i4.2.2 i4.2.1 fun A3 k3 => ?_
    have hx3 := k3.get hx2
    have hy3 := k3.get hy2
    simp (disch := as_aux_lemma => first | omega | simp only [hDs] <;> omega | simp [isCell]) [hRs, takeMarks, resA, resAll, resOne, Value.cells, t0, t1, t13, show (i : Int) < m by omega, idxSA_ok, hx3, hy3, ints_two]
    refine w50 i6.1 i6.2.2 i6.2.1 fun A4 k4 => ?_
    simp (disch := as_aux_lemma => first | omega | simp only [hDs] <;> omega | simp [isCell]) [hRs, takeMarks, resA, resAll, resOne, Value.cells, t13]
    refine ih (i + 1) _ A4 (by omega) ((((kA.trans k1).trans k2).trans k3).trans k4) ?_ ?_ ?_ ?_
    · simp [t0, hxv]
    · simp [t1, hyv]
    · simp [t12]
    · simp [t13, wrId (n := (i : Int) + 1) (by omega) (by omega)]
theorem w26 {a b : List Int} {m : Nat} {va vb : Value} (hm : m < 1000000) (ha : RdS A 8 m (ints a) va) (hb : RdS A 8 m (ints b) vb) (hin : ∀ c, c < m → ∀ r, (r = 0 ∨ r = 2 ∨ r = 4 ∨ r = 6) → gi b (c * 8 + r) ≤ gi a (c * 8 + r) ∧ gi a (c * 8 + r) ≤ gi a (c * 8 + r + 1) ∧ gi a (c * 8 + r + 1) ≤ gi b (c * 8 + r + 1))
    (hQ : ∀ A', Ext' A A' → V (.bool true) A') : WF AP KL g 26 [va, vb] A V := by
  have hla := ha.len
  have hlb := hb.len
  rw [WF_body rfl (show AP 26 = some F26 from rfl)]
  simp (disch := as_aux_lemma => first | omega | simp only [hDs] <;> omega | simp [isCell]) [hRs, takeMarks, resA, resAll, resOne, Value.cells, hla, hlb]
  refine loop26 (T0 := []) hm ha hb hin (fun T' A' k => ?_) m 0 _ A (by omega) (Ext'.refl _) ?_ ?_ ?_ ?_
  · simp (disch := as_aux_lemma => first | omega | simp only [hDs] <;> omega | simp [isCell]) [hRs, takeMarks, resA, resAll, resOne, Value.cells]
    exact hQ A' k
  all_goals simp
end
end Go.Ab.Wave
namespace Go.Ab.Wave
open Go Go.Ab
theorem GuardW_u {g : Nat} {A : Hp} {K : Nat → Option Spec} {dst : Option Nat} {op : AOp} {l : List AOper} {T : List Value} {R : List Value → Hp → Prop} {b : Bool} : GuardW AP K g dst op l T A R b undef = WO AP K g l (putA dst T undef) A R := rfl
theorem prep_of {P : Par} (h : POk P) : prepE P = 0 := by
  unfold prepE
  rw [if_pos h.chk, if_pos (inS_iff.2 h.sea)]
  unfold checkM
  rw [if_neg]
  have e1 := inS_iff.2 h.keep
  have e2 := inS_iff.2 h.land
  have e3 := inS_iff.2 h.loss
  simp [e1, e2, e3]
theorem check_of {w h s : Int} {l : List (Int × Int)} (hw : 1 ≤ w ∧ w ≤ 24) (hh : 1 ≤ h ∧ h ≤ 24) (hs : 1 ≤ s ∧ s ≤ 10000) (hl : (l.length : Int) = w * h) (hp : ∀ p ∈ l, p.1 ≤ p.2 ∧ -1200000 ≤ p.1 ∧ p.2 ≤ 1200000) : checkG w h s l = 0 := by
  have a2 := Int.mul_le_mul hw.2 hh.2 (by omega) (by omega)
  unfold checkG
  rw [if_neg (by simp [inB]; omega), if_neg, if_neg]
  · simp only [Bool.not_eq_true, List.any_eq_false]
    intro p hp'
    have := hp p hp'
    have e : wr .i64 (-1200000) = -1200000 := rfl
    simp [badSpan, okSpan, e]; omega
  · rw [← hl, wrId (n := (l.length : Int)) (by omega) (by omega)]; simp
theorem coast_ok {C : Coast} (h : C.Ok) (sl : Value) : POk (C.P sl) := by
  have wh := h.wh
  have h3 := h.sea
  have h4 := h.seaM
  have e3 := tmod_rng h4.1 (show (0 : Int) < 50 by decide)
  have ord : ∀ a b lo m : Int, 0 ≤ a → 0 ≤ b → 0 < m → lo ≤ ordLo a b lo m ∧ ordLo a b lo m ≤ ordHi a b lo m ∧ ordHi a b lo m ≤ lo + m - 1 := fun a b lo m ha hb hm => by
    have := tmod_rng ha hm
    have := tmod_rng hb hm
    unfold ordLo ordHi; omega
  have k := ord C.k0 C.k1 1 1024 h.k0.1 h.k1.1 (by decide)
  have l := ord C.l0 C.l1 10 2000 h.l0.1 h.l1.1 (by decide)
  have o := ord C.o0 C.o1 0 256 h.o0.1 h.o1.1 (by decide)
  refine ⟨check_of ⟨wh.1.1, by show C.w ≤ 24; omega⟩ ⟨wh.2.1.1, by show C.h ≤ 24; omega⟩ (by show 1 ≤ (500 : Int) ∧ (500 : Int) ≤ 10000; omega) (by show ((C.gnd C.n).length : Int) = _; rw [Coast.gnd_len]; exact wh.2.2.1) (fun p hp => ?_), ?_, ?_, ?_, ?_, ?_⟩
  · obtain ⟨i, _, rfl⟩ := List.mem_map.1 hp
    have := h.g i
    show C.gl i ≤ C.gl i + C.gm i ∧ _ ∧ C.gl i + C.gm i ≤ _
    omega
  · show -20000 ≤ C.sea ∧ C.sea ≤ C.sea + C.seaM.tmod 50 ∧ C.sea + C.seaM.tmod 50 ≤ 20000
    omega
  · show 1 ≤ ordLo C.k0 C.k1 1 1024 ∧ _ ∧ ordHi C.k0 C.k1 1 1024 ≤ 1024
    exact ⟨k.1, k.2.1, by omega⟩
  · show 10 ≤ ordLo C.l0 C.l1 10 2000 ∧ _ ∧ ordHi C.l0 C.l1 10 2000 ≤ 100000
    exact ⟨l.1, l.2.1, by omega⟩
  · show 0 ≤ ordLo C.o0 C.o1 0 256 ∧ _ ∧ ordHi C.o0 C.o1 0 256 ≤ 1000
    exact ⟨o.1, o.2.1, by omega⟩
  · show (C.gnd C.n).length ≤ 40
    rw [Coast.gnd_len]; omega
section
variable {P : Par} {zs : List Int} {n : Nat}
end
end Go.Ab.Wave
namespace Go.Ab.Wave
open Go Go.Ab
section
variable {A : Hp} {n g : Nat} {sl lv : Value} {w hh s lo shi : Int} {l : List (Int × Int)} {zs : List Int} {V : Value → Hp → Prop}
theorem w22 (hl : groundOf A sl = some l) (hz : RdS A 8 n (ints zs) lv) (hn : n < 1000000) (hg : g ≤ A.n)
    (hQ : ∀ sv A', A.n ≤ A'.n → (∀ x, x < A.n → A'.get x = A.get x) → AccS A.n A' 1 (dryRes w hh s l lo shi n zs) sv → V (.tuple ⟨[sv, .int .i64 (dryErr w hh s l lo shi n)]⟩) A') :
    WF AP KL g 22 [gridV w hh s sl, spanV lo shi, lv] A V := by
  have hl1 := groundOf_push (b := .cells [.int .i64 lo, .int .i64 shi] false) (groundOf_push (b := .cells [.int .i64 w, .int .i64 hh, .int .i64 s, sl] false) hl)
  have hlen := (rd_ground hl).len
  rw [WF_body rfl (show AP 22 = some F22 from rfl)]
  by_cases h1 : checkG w hh s l = 0
  · by_cases h2 : inS lo shi (-20000) 20000 = true
    · by_cases h3 : n = l.length
      · have he : dryErr w hh s l lo shi n = 0 := by simp [dryErr, h1, h2, h3]
        have h2' := h2
        simp only [inS, Bool.and_eq_true, decide_eq_true_eq] at h2'
        simp (disch := as_aux_lemma => first | omega | simp only [hDs] <;> omega | simp [isCell]) [hRs, takeMarks, resA, resAll, resOne, Value.cells, gridV, spanV, J, WF_spec (show KL 40 = some S37 from rfl), S37_eq hl1, WF_spec (show KL 43 = some S42 from rfl), S42_eq', h1, h2, hz.len, hlen, show ((n : Int) = (l.length : Int)) by omega]
        refine loop22 (G := A.n) (S := A.n + 1) (n := n) (lv := lv) (gs := flat2 l) (zs := zs) (shi := shi) push2_a push2_b (by rw [h3]; exact (rd_ground hl).push.push) hz.push.push hn ?_ (by omega) (by omega) ?_ (fun T' A' sv' k1 k2 k3 k4 => ?_)
          n 0 _ _ (.slice none 0 0) (by omega) (Nat.le_refl _) (fun _ _ => rfl) AccS.nil ?_ ?_ ?_ ?_ ?_
        · exact Nat.le_trans hg (Nat.le_add_right A.n 2)
        · intro i hi
          obtain ⟨p, hp, e1, _⟩ := flat2_lo (l := l) (i := i) (by omega)
          have := check_ok h1 p hp
          rw [e1]; omega
        · simp (disch := as_aux_lemma => first | omega | simp only [hDs] <;> omega | simp [isCell]) [hRs, takeMarks, resA, resAll, resOne, Value.cells, k4]
          rw [he] at hQ
          refine hQ sv' A' (Nat.le_trans (Nat.le_add_right A.n 2) k1) (fun x hx => ?_) ?_
          · rw [k2 x (Nat.lt_of_lt_of_le hx (Nat.le_add_right A.n 2)), push2_old hx]
          · unfold dryRes; rw [if_pos he]; exact k3.weaken (Nat.le_add_right A.n 2)
        all_goals simp [h3]
      · have he : dryErr w hh s l lo shi n = 11 := by simp [dryErr, h1, h2, h3]
        simp (disch := as_aux_lemma => first | omega | simp only [hDs] <;> omega | simp [isCell]) [hRs, takeMarks, resA, resAll, resOne, Value.cells, gridV, spanV, J, WF_spec (show KL 40 = some S37 from rfl), S37_eq hl1, WF_spec (show KL 43 = some S42 from rfl), S42_eq', h1, h2, hz.len, hlen, show ¬ ((n : Int) = (l.length : Int)) by omega]
        rw [he] at hQ
        refine hQ _ _ ?_ (fun x hx => ?_) (.inl ⟨rfl, ?_⟩)
        · exact Nat.le_add_right A.n 2
        · exact push2_old hx
        · unfold dryRes; rw [if_neg (by omega)]
    · have he : dryErr w hh s l lo shi n = 3 := by simp [dryErr, h1, h2]
      simp (disch := as_aux_lemma => first | omega | simp only [hDs] <;> omega | simp [isCell]) [hRs, takeMarks, resA, resAll, resOne, Value.cells, gridV, spanV, J, WF_spec (show KL 40 = some S37 from rfl), S37_eq hl1, WF_spec (show KL 43 = some S42 from rfl), S42_eq', h1, h2, hz.len, hlen]
      rw [he] at hQ
      refine hQ _ _ ?_ (fun x hx => ?_) (.inl ⟨rfl, ?_⟩)
      · exact Nat.le_add_right A.n 2
      · exact push2_old hx
      · unfold dryRes; rw [if_neg (by omega)]
  · have he : dryErr w hh s l lo shi n = checkG w hh s l := by simp [dryErr, h1]
    simp (disch := as_aux_lemma => first | omega | simp only [hDs] <;> omega | simp [isCell]) [hRs, takeMarks, resA, resAll, resOne, Value.cells, gridV, spanV, J, WF_spec (show KL 40 = some S37 from rfl), S37_eq hl1, h1]
    rw [he] at hQ
    refine hQ _ _ ?_ (fun x hx => ?_) (.inl ⟨rfl, ?_⟩)
    · exact Nat.le_add_right A.n 2
    · exact push2_old hx
    · unfold dryRes; rw [if_neg (by omega)]
theorem loop4 {A0 : Hp} {T0 : List Value} {rd : Option Nat} {D : List Nat} {Q : Ex → St → Prop} (hl : RdS A0 8 n (ints zs) lv) (hn : n < 1000000) (hg : g ≤ A0.n)
    (hQ : ∀ T' A' sv', A0.n ≤ A'.n → (∀ x, x < A0.n → A'.get x = A0.get x) → AccS A0.n A' 8 (ints zs) sv' → (∀ i, i = 2 ∨ i = 3 ∨ i = 4 → tget T' i = tget T0 i) → tget T' 7 = sv' → Q (.exit 0) ⟨T', D, A'⟩) :
    ∀ (k i : Nat) (T : List Value) (A : Hp) (sv : Value), i + k = n → A0.n ≤ A.n → (∀ x, x < A0.n → A.get x = A0.get x) → AccS A0.n A 8 (ints (zs.take (i * 8))) sv → (∀ i, i = 2 ∨ i = 3 ∨ i = 4 → tget T i = tget T0 i) → tget T0 2 = lv →
      tget T 7 = sv → tget T 8 = .int .i64 i → W AP KL g rd (.loop body4) ⟨T, D, A⟩ Q := by
  have hzl := hl.1
  have hlen := hl.len
  rw [ints_length] at hzl
  intro k
  induction k with
  | zero =>
    intro i T A sv hi hn' hold hacc ht h2 h7 h8
    have : i = n := by omega
    subst this
    have h2' := (ht 2 (by omega)).trans h2
    rw [W_loop]
    simp (disch := as_aux_lemma => first | omega | simp only [hDs] <;> omega | simp [isCell]) [hRs, takeMarks, resA, resAll, resOne, Value.cells, body4, h2', h8, hlen]
    refine hQ _ _ sv hn' hold (by rw [← hzl, List.take_length] at hacc; exact hacc) (fun i hi => ?_) (by simp [h7])
    rcases hi with rfl | rfl | rfl <;> simp [ht]
  | succ k ih =>
    intro i T A sv hi hn' hold hacc ht h2 h7 h8
    have hl' := hl.mono hold
    have h2' := (ht 2 (by omega)).trans h2
    obtain ⟨y, yc, yr, rfl, hy⟩ := hl'.at (i := i) (by omega)
    obtain ⟨sv', A', e, hacc', hold', hn''⟩ := hacc.add (g := g) (bytes := 64) (new := [.int .i64 (gi zs (i * 8)), .int .i64 (gi zs (i * 8 + 1)), .int .i64 (gi zs (i * 8 + 2)), .int .i64 (gi zs (i * 8 + 3)), .int .i64 (gi zs (i * 8 + 4)), .int .i64 (gi zs (i * 8 + 5)), .int .i64 (gi zs (i * 8 + 6)), .int .i64 (gi zs (i * 8 + 7))]) (ro := false) (n := i) hg hn' rfl (by decide) rfl (by rw [ints_length, List.length_take]; omega) (by unfold room; omega)
    have hacc2 : AccS A0.n A' 8 (ints (zs.take ((i + 1) * 8))) sv' := by
      rw [show (i + 1) * 8 = i * 8 + 8 by omega, ← ints_take (by omega)]
      exact hacc'
    rw [W_loop]
    simp (disch := as_aux_lemma => first | omega | simp only [hDs] <;> omega | simp [isCell]) [hRs, takeMarks, resA, resAll, resOne, Value.cells, body4, h2', h7, h8, hlen, show ((i : Int) < n) by omega, show i < n by omega, idxSA_ok, hy, ints_two, Nat.add_assoc, slitA, fillA, setRange, e]
    trace_state
    refine ih (i + 1) _ A' sv' (by omega) (by omega) (fun x hx => by rw [hold' x hx, hold x hx]) hacc2 (fun i hi => ?_) h2 (by simp) (by simp [wrId (n := (i : Int) + 1) (by omega) (by omega)])
    rcases hi with rfl | rfl | rfl <;> simp [ht]
end
end Go.Ab.Wave
namespace Go.Ab.Wave
open Go Go.Ab
section
variable {A : Hp} {n g : Nat} {sl lv : Value} {w hh s lo shi : Int} {l : List (Int × Int)} {zs : List Int} {V : Value → Hp → Prop}
theorem dryRes_bls : ∃ bs : List Bool, dryRes w hh s l lo shi n zs = bls bs ∧ bs.length ≤ n := by
  unfold dryRes
  split
  · exact ⟨(List.range n).map fun i => dryB shi (flat2 l) zs i, by simp [dryL, bls], by simp⟩
  · exact ⟨[], rfl, by simp⟩
theorem w4 (hl : groundOf A sl = some l) (hz : RdS A 8 n (ints zs) lv) (hg : g ≤ A.n) (hQ : ∀ A', V (.bool true) A') : WF AP KL g 4 [gridV w hh s sl, spanV lo shi, lv] A V := by
  have hlen := (rd_ground hl).len
  rw [WF_body rfl (show AP 4 = some F4 from rfl)]
  by_cases h1 : l.length ≤ 100
  · by_cases h2 : n ≤ 110
    · simp (disch := as_aux_lemma => first | omega | simp only [hDs] <;> omega | simp [isCell]) [hRs, takeMarks, resA, resAll, resOne, Value.cells, gridV, spanV, J, hlen, hz.len, show ¬ ((100 : Int) < l.length) by omega, show ¬ ((110 : Int) < n) by omega]
      refine loop4 (n := n) (lv := lv) (zs := zs) hz.push.push (by omega) (Nat.le_trans hg (Nat.le_add_right A.n 2)) (fun T' A' sv' k1 k2 k3 k4 k5 => ?_) n 0 _ _ (.slice none 0 0) (by omega) (Nat.le_refl _) (fun _ _ => rfl) (by simp [ints]; exact AccS.nil) (fun _ _ => rfl) ?_ ?_ ?_
      · have q2 := k4 2 (by omega)
        have q3 := k4 3 (by omega)
        have q4 := k4 4 (by omega)
        simp at q2 q3 q4
        have a0 := (k2 A.n (by rw [push2_n]; omega)).trans push2_a
        have a1 := (k2 (A.n + 1) (by rw [push2_n]; omega)).trans push2_b
        have hz' : RdS A' 8 n (ints zs) lv := hz.push.push.mono k2
        have hp' : RdS A' 8 n (ints zs) sv' := k3.rd hz.1 (by decide)
        have hl' : groundOf A' sl = some l := groundOf_mono (groundOf_push (groundOf_push hl)) k2
        rw [push2_n] at k1
        simp (disch := as_aux_lemma => first | omega | simp only [hDs] <;> omega | simp [isCell]) [hRs, takeMarks, resA, resAll, resOne, Value.cells, q2, q3, q4, k5, a0, a1]
        refine w21 hl' hp' (by omega) (by omega) fun va B m1 m2 m3 => ?_
        have b0 := (m2 A.n (by omega)).trans a0
        have b1 := (m2 (A.n + 1) (by omega)).trans a1
        simp (disch := as_aux_lemma => first | omega | simp only [hDs] <;> omega | simp [isCell]) [hRs, takeMarks, resA, resAll, resOne, Value.cells, q2, q3, q4, k5, b0, b1]
        refine w22 (groundOf_mono hl' m2) (hz'.mono m2) (by omega) (by omega) fun vb C o1 o2 o3 => ?_
        obtain ⟨bs, hb, hbl⟩ := dryRes_bls (w := w) (hh := hh) (s := s) (l := l) (lo := lo) (shi := shi) (n := n) (zs := zs)
        have ha := ((hb ▸ m3).mono o2).rd (n := bs.length) (by simp [bls]) (by decide)
        have hb' := (hb ▸ o3).rd (n := bs.length) (by simp [bls]) (by decide)
        simp (disch := as_aux_lemma => first | omega | simp only [hDs] <;> omega | simp [isCell]) [hRs, takeMarks, resA, resAll, resOne, Value.cells]
        refine w23 ha hb' (by omega) ?_
        simp (disch := as_aux_lemma => first | omega | simp only [hDs] <;> omega | simp [isCell]) [hRs, takeMarks, resA, resAll, resOne, Value.cells, WF_spec (show KL 10 = some (memoSpec [mWorks]) from rfl), works_eq, hQ]
      all_goals simp
    · simp (disch := as_aux_lemma => first | omega | simp only [hDs] <;> omega | simp [isCell]) [hRs, takeMarks, resA, resAll, resOne, Value.cells, gridV, spanV, J, hlen, hz.len, show ¬ ((100 : Int) < l.length) by omega, show ((110 : Int) < n) by omega, WF_spec (show KL 10 = some (memoSpec [mWorks]) from rfl), works_eq, hQ]
  · simp (disch := as_aux_lemma => first | omega | simp only [hDs] <;> omega | simp [isCell]) [hRs, takeMarks, resA, resAll, resOne, Value.cells, gridV, spanV, J, hlen, hz.len, show ((100 : Int) < l.length) by omega, WF_spec (show KL 10 = some (memoSpec [mWorks]) from rfl), works_eq, hQ]
end
end Go.Ab.Wave
namespace Go.Ab.Wave
open Go Go.Ab
section
variable {g : Nat} {D : List Nat} {rd : Option Nat} {Q : Ex → St → Prop} {A : Hp} {V : Value → Hp → Prop}
end
end Go.Ab.Wave
namespace Go.Ab.Wave
open Go Go.Ab
section
variable {g : Nat} {D : List Nat} {rd : Option Nat} {Q : Ex → St → Prop} {A : Hp} {V : Value → Hp → Prop}
end
end Go.Ab.Wave
namespace Go.Ab.Wave
open Go Go.Ab
theorem Dom.self (P : Par) : Dom P P := ⟨fun h => h, rfl, rfl, rfl, rfl, fun _ _ => Int.le_refl _, fun _ _ => Int.le_refl _, fun _ _ => Int.le_refl _, Int.le_refl _, Int.le_refl _, Int.le_refl _, Int.le_refl _⟩
theorem DomZ.self {P : Par} {zs : List Int} {n : Nat} : DomZ P P zs zs n := ⟨fun _ _ => rfl, fun _ _ => Int.le_refl _, fun _ _ => Int.le_refl _⟩
theorem Both.self {P : Par} {zs : List Int} {n : Nat} (hP : POk P) (hz : StartOk P zs n) (F : SheetFin P zs n) : Both P P zs zs n := ⟨Dom.self P, DomZ.self, hP, hP, hz, hz, F, F⟩
section
variable {P : Par} {zs : List Int} {n : Nat} {d M : Int}
end
end Go.Ab.Wave
namespace Go.Ab.Wave
open Go Go.Ab
section
variable {P : Par} {ss : List Int}
theorem waveL_get {i o : Nat} (ho : o < P.l.length * 8) : gi (waveL P ss (i + 1)) o = joinAt (waveL P ss i) (srcB P (srcAt ss (i + 1))) o := joinL_get ho
theorem waveL_ends {o : Nat} (ho : o < P.l.length * 8) : ∀ n, (∀ j, j ≤ n → if o % 2 = 0 then gi (waveL P ss n) o ≤ gi (srcB P (srcAt ss j)) o else gi (srcB P (srcAt ss j)) o ≤ gi (waveL P ss n) o) ∧ ∃ j, j ≤ n ∧ gi (srcB P (srcAt ss j)) o = gi (waveL P ss n) o := by
  intro n
  induction n with
  | zero => exact ⟨fun j hj => by rw [show j = 0 by omega]; split <;> exact Int.le_refl _, 0, Nat.le_refl _, rfl⟩
  | succ n ih =>
    obtain ⟨h1, k, hk, e⟩ := ih
    rw [waveL_get ho]
    unfold joinAt
    by_cases hp : o % 2 = 0
    · simp only [hp, if_true] at h1 ⊢
      refine ⟨fun j hj => ?_, ?_⟩
      · by_cases e' : j = n + 1
        · rw [e']; omega
        · have := h1 j (by omega); omega
      · by_cases hle : gi (waveL P ss n) o ≤ gi (srcB P (srcAt ss (n + 1))) o
        · exact ⟨k, by omega, by omega⟩
        · exact ⟨n + 1, Nat.le_refl _, by omega⟩
    · simp only [hp, if_false] at h1 ⊢
      refine ⟨fun j hj => ?_, ?_⟩
      · by_cases e' : j = n + 1
        · rw [e']; omega
        · have := h1 j (by omega); omega
      · by_cases hle : gi (srcB P (srcAt ss (n + 1))) o ≤ gi (waveL P ss n) o
        · exact ⟨k, by omega, by omega⟩
        · exact ⟨n + 1, Nat.le_refl _, by omega⟩
theorem src_row {S : Src} (hF : SrcFin P S) {c : Nat} (hc : c < P.l.length) (r : Nat) (hr : r = 0 ∨ r = 2 ∨ r = 4 ∨ r = 6) : gi (srcB P S) (c * 8 + r) ≤ gi (srcB P S) (c * 8 + r + 1) := by
  obtain ⟨zo, zf⟩ := hF
  have Bu := Both.self zo.ph zo.zh zf.fh
  have Bl := Both.self zo.pl zo.zl zf.fl
  have Bm : Both (P.at true) (P.at false) (srcZ P S) (srcZ P S) (srcC P S).length := by
    have hs := zo.ph.sea
    have hg : ∀ c, c < P.l.length → P.glo c ≤ P.ghi c := fun c hc => (zo.ph.ground (c := c) hc).2.1
    have hs' : P.slo ≤ P.shi := hs.2.1
    refine ⟨⟨fun _ => rfl, rfl, rfl, rfl, rfl, fun c hc => ?_, fun c hc => ?_, fun c hc => hg c hc, zo.ph.keep.2.1, zo.ph.land.2.1, zo.ph.loss.2.1, hs'⟩, ⟨fun _ _ => rfl, fun i hi => (zo.zh.time i hi).2.1, fun i hi => (zo.zh.rise i hi).2.1⟩, zo.ph, zo.pl, zo.zh, zo.zl, zf.fh, zf.fl⟩
    · show P.slo - P.ghi c ≤ P.shi - P.glo c
      have := hg c hc; omega
    · show P.slo - P.ghi c ≤ P.shi - P.glo c
      have := hg c hc; omega
  have I : InAt P P (srcZ P S) (srcZ P S) (srcC P S).length c := In.at ⟨Bu, Bl, Bm⟩ hc Bu
  have h := (I.row r hr).2.1
  unfold srcB
  have e : c * 8 + r + 1 = c * 8 + (r + 1) := by omega
  rw [e, bounds_get hc (by omega), bounds_get hc (by omega)]
  exact h
theorem one_in {n j : Nat} (hj : j ≤ n) (hF : SrcFin P (srcAt ss j)) {c : Nat} (hc : c < P.l.length) (r : Nat) (hr : r = 0 ∨ r = 2 ∨ r = 4 ∨ r = 6) :
    gi (waveL P ss n) (c * 8 + r) ≤ gi (srcB P (srcAt ss j)) (c * 8 + r) ∧ gi (srcB P (srcAt ss j)) (c * 8 + r) ≤ gi (srcB P (srcAt ss j)) (c * 8 + r + 1) ∧ gi (srcB P (srcAt ss j)) (c * 8 + r + 1) ≤ gi (waveL P ss n) (c * 8 + r + 1) := by
  have h1 := (waveL_ends (P := P) (ss := ss) (o := c * 8 + r) (by omega) n).1 j hj
  have h2 := (waveL_ends (P := P) (ss := ss) (o := c * 8 + r + 1) (by omega) n).1 j hj
  rw [if_pos (by omega)] at h1
  rw [if_neg (by omega)] at h2
  exact ⟨h1, src_row hF hc r hr, h2⟩
theorem few_in {ss' : List Int} {n n' : Nat} (hF : ∀ j, j ≤ n' → SrcFin P (srcAt ss' j)) (hsub : ∀ j, j ≤ n' → ∃ k, k ≤ n ∧ srcAt ss k = srcAt ss' j) {c : Nat} (hc : c < P.l.length) (r : Nat) (hr : r = 0 ∨ r = 2 ∨ r = 4 ∨ r = 6) :
    gi (waveL P ss n) (c * 8 + r) ≤ gi (waveL P ss' n') (c * 8 + r) ∧ gi (waveL P ss' n') (c * 8 + r) ≤ gi (waveL P ss' n') (c * 8 + r + 1) ∧ gi (waveL P ss' n') (c * 8 + r + 1) ≤ gi (waveL P ss n) (c * 8 + r + 1) := by
  obtain ⟨a1, j1, b1, e1⟩ := waveL_ends (P := P) (ss := ss') (o := c * 8 + r) (by omega) n'
  obtain ⟨a2, j2, b2, e2⟩ := waveL_ends (P := P) (ss := ss') (o := c * 8 + r + 1) (by omega) n'
  obtain ⟨k1, c1, d1⟩ := hsub j1 b1
  obtain ⟨k2, c2, d2⟩ := hsub j2 b2
  have h1 := (waveL_ends (P := P) (ss := ss) (o := c * 8 + r) (by omega) n).1 k1 c1
  have h2 := (waveL_ends (P := P) (ss := ss) (o := c * 8 + r + 1) (by omega) n).1 k2 c2
  rw [if_pos (by omega), d1, e1] at h1
  rw [if_neg (by omega), d2, e2] at h2
  have h3 := a1 j1 b1
  have h4 := a2 j1 b1
  rw [if_pos (by omega)] at h3
  rw [if_neg (by omega)] at h4
  have h5 := src_row (hF j1 b1) hc r hr
  exact ⟨h1, by omega, h2⟩
theorem dry_row {S : Src} (hF : SrcFin P S) {c : Nat} (hc : c < P.l.length) (h1 : P.shi ≤ P.glo c) (h2 : gi (srcB P S) (c * 8 + 3) ≤ 0) : gi (srcB P S) (c * 8) = Never ∧ gi (srcB P S) (c * 8 + 5) = P.ghi c := by
  obtain ⟨zo, zf⟩ := hF
  have Nv := Never_eq0
  have Bu := Both.self zo.ph zo.zh zf.fh
  have hcu : c < (P.at true).l.length := hc
  obtain ⟨zs, hzs⟩ : ∃ zs, zs = srcZ P S := ⟨_, rfl⟩
  obtain ⟨m, hm⟩ : ∃ m, m = (srcC P S).length := ⟨_, rfl⟩
  have hg : -1200000 ≤ P.glo c ∧ P.glo c ≤ P.ghi c ∧ P.ghi c ≤ 1200000 := zo.ph.ground hcu
  have hs : -20000 ≤ P.slo ∧ P.slo ≤ P.shi ∧ P.shi ≤ 20000 := zo.ph.sea
  unfold srcB at h2 ⊢
  rw [← hzs, ← hm] at zo zf Bu h2 ⊢
  have du : ((E1 P zs m).P.at true).dep c = P.shi - P.glo c := rfl
  have dl : ((E1 P zs m).P.at false).dep c = P.slo - P.ghi c := rfl
  have e3 : gi (bounds P zs m) (c * 8 + 3) = (E1 P zs m).l3 c := bounds_get hc (by decide)
  have e5 : gi (bounds P zs m) (c * 8 + 5) = (E1 P zs m).l5 c := bounds_get hc (by decide)
  have e0 : gi (bounds P zs m) (c * 8) = gi (fAr (P.at true) zs m) c := bounds_get (r := 0) hc (by decide)
  have hla : (E1 P zs m).laH c = -Never := by
    refine Decidable.byContradiction fun h => ?_
    have h3 := (Bu.lnd (c := c) hcu h).2.1
    have h3' : P.glo c < (E1 P zs m).laH c := h3
    rw [e3] at h2
    unfold Spr.l3 at h2
    rw [if_pos h] at h2
    have e : (E1 P zs m).P.glo c = P.glo c := rfl
    rw [e] at h2
    omega
  refine ⟨?_, ?_⟩
  · rw [e0]
    have hv : 0 ≤ gi (fAr (P.at true) zs m) c ∧ gi (fAr (P.at true) zs m) c ≤ Never := zf.fh.lnd.mid.val c hcu
    refine Decidable.byContradiction fun hne => ?_
    have hd := zf.fh.lnd.mid.der c hcu
    obtain ⟨v, hv'⟩ : ∃ v, v = gi (fAr (P.at true) zs m) c := ⟨_, rfl⟩
    have hd' : (PL (P.at true) (fSu (P.at true) zs m)).Der (arrF (P.at true) zs m) c (gi (fAr (P.at true) zs m) c) := hd
    rw [← hv'] at hd' hv hne
    cases hd' with
    | init _ =>
      have hO := sailOk zo.ph zo.zh zf.fh.arr zf.fh.str
      have h3 := ((hO.ar c hcu).2 (by omega)).2
      have : (P.at true).dep c = P.shi - P.glo c := rfl
      omega
    | @step a _ u ha _ hb hs' =>
      have hs2 : ((P.at true).spU a c (gi (fSu (P.at true) zs m) a)).2 = true := hs'
      obtain ⟨_, _, q3⟩ := spU_true hs2
      have q4 := (zf.fh.srf.cl a c ha hb hs2).2 rfl
      have q4' : ((P.at true).spU a c (gi (fSu (P.at true) zs m) a)).1 ≤ (E1 P zs m).laH c := q4
      have q5 : ((P.at true).spU a c (gi (fSu (P.at true) zs m) a)).1 = gi (fSu (P.at true) zs m) a - agE true P.o0 P.o1 := rfl
      have q3' : P.glo c < gi (fSu (P.at true) zs m) a - agE true P.o0 P.o1 := q3
      omega
  · rw [e5]
    unfold Spr.l5 Spr.h5 Spr.r5
    rw [if_neg (fun h => h hla), if_neg (by omega), if_neg (by omega)]
    rfl
where
  Never_eq0 : Never = 1099511627776 := rfl
end
end Go.Ab.Wave
namespace Go.Ab.Wave
open Go Go.Ab
theorem Coast.part {C : Coast} : partA C.cells 0 (some 12) = some (.agg ⟨C.cells⟩) := rfl
theorem rd_len {A : Hp} {sl : Value} {l : List (Int × Int)} (h : groundOf A sl = some l) : lenV sl = some (.int .i64 l.length) := by
  rcases (groundOf_cases h).2 with ⟨h1, h2⟩ | ⟨x, cap, ro, h1, _⟩
  · rw [h1, h2]; rfl
  · rw [h1]; rfl
section
variable {g : Nat} {A : Hp} {V : Value → Hp → Prop}
end
end Go.Ab.Wave
namespace Go.Ab.Wave
open Go Go.Ab
def pp5 : ACode := (.seq
 (.ops [
oM 219 22,
oM 220 26,
oI 221 219 220 8,
oF 222 221 0,
oF 223 222 0,
oL 224 223,
oM 225 15,
oM 226 26,
oI 227 225 226 8,
oF 228 227 0,
oF 229 228 0,
oL 230 229,
oP 231 (.build [.int .i64 0, .int .i64 0] [(0, 1, .t 224), (1, 1, .t 230)]),
oM 232 22,
oM 233 26,
oI 234 232 233 8,
oF 235 234 0,
oF 236 235 1,
oL 237 236,
oM 238 15,
oM 239 26,
oI 240 238 239 8,
oF 241 240 0,
oF 242 241 1,
oL 243 242,
oP 244 (.build [.int .i64 0, .int .i64 0] [(0, 1, .t 237), (1, 1, .t 243)]),
oM 245 22,
oM 246 26,
oI 247 245 246 8,
oF 248 247 2,
oF 249 248 0,
oL 250 249,
oM 251 15,
oM 252 26,
oI 253 251 252 8,
oF 254 253 2,
oF 255 254 0,
oL 256 255,
oP 257 (.build [.int .i64 0, .int .i64 0] [(0, 1, .t 250), (1, 1, .t 256)]),
oM 258 22,
oM 259 26,
oI 260 258 259 8,
oF 261 260 2,
oF 262 261 1,
oL 263 262,
oM 264 15,
oM 265 26,
oI 266 264 265 8,
oF 267 266 2,
oF 268 267 1,
oL 269 268,
oP 270 (.build [.int .i64 0, .int .i64 0] [(0, 1, .t 263), (1, 1, .t 269)]),
oM 271 22,
oM 272 26,
oI 273 271 272 8,
oF 274 273 4,
oF 275 274 0,
oL 276 275,
oM 277 15,
oM 278 26,
oI 279 277 278 8,
oF 280 279 4,
oF 281 280 0,
oL 282 281,
oP 283 (.build [.int .i64 0, .int .i64 0] [(0, 1, .t 276), (1, 1, .t 282)]),
oM 284 22,
oM 285 26,
oI 286 284 285 8,
oF 287 286 4,
oF 288 287 1,
oL 289 288,
oM 290 15,
oM 291 26,
oI 292 290 291 8,
oF 293 292 4,
oF 294 293 1,
oL 295 294,
oP 296 (.build [.int .i64 0, .int .i64 0] [(0, 1, .t 289), (1, 1, .t 295)]),
oM 297 22,
oM 298 26,
oI 299 297 298 8,
oF 300 299 6,
oF 301 300 0,
oL 302 301,
oM 303 15,
oM 304 26,
oI 305 303 304 8,
oF 306 305 6,
oF 307 306 0,
oL 308 307,
oP 309 (.build [.int .i64 0, .int .i64 0] [(0, 1, .t 302), (1, 1, .t 308)]),
oM 310 22,
oM 311 26,
oI 312 310 311 8,
oF 313 312 6,
oF 314 313 1,
oL 315 314,
oM 316 15,
oM 317 26,
oI 318 316 317 8,
oF 319 318 6,
oF 320 319 1,
oL 321 320,
oP 322 (.build [.int .i64 0, .int .i64 0] [(0, 1, .t 315), (1, 1, .t 321)]),
oP 323 (.slit 8 2 [.int .i64 0, .int .i64 0] [(0, .t 231), (1, .t 244), (2, .t 257), (3, .t 270), (4, .t 283), (5, .t 296), (6, .t 309), (7, .t 322)]),
oP 324 (.len (.t 323)),
oP 325 (.move (oK 0))])
 (.block 6
 (.loop
 body5p)))
def body5c : ACode := (.seq
 (.ops [
oB 182 .lss 181 180])
 (.seq
 (.cond (.t 182)
 .skip
 (.exit 4))
 (.seq
 (.block 5
 (.seq
 (.ops [
oM 183 181,
oM 26 183])
 (.seq
 (.seq
 (.ops [
oM 184 17,
oM 185 26,
oI 186 184 185 1,
oL 187 186,
oM 188 187,
oN 189 188 true 24,
oN 190 188 true 26,
oQ 191 188 true (.idxS (.t 189) (.t 190) 1),
oQ 192 188 true (.load (.t 191) none),
oQ 193 188 true (.not (.t 192)),
oN 194 188 true 193,
oN 195 194 false 22,
oN 196 194 false 26,
oQ 197 194 false (.idxS (.t 195) (.t 196) 8),
oQ 198 194 false (.fieldAddr (.t 197) 0),
oQ 199 194 false (.fieldAddr (.t 198) 0),
oQ 200 194 false (.load (.t 199) none),
oQ 201 194 false (.bin .lss (.t 200) (oK 1099511627776)),
oQ 202 188 true (.pick (.t 194) (.k (.bool true)) (.t 201)),
oN 203 188 true 202,
oN 204 203 false 22,
oN 205 203 false 26,
oQ 206 203 false (.idxS (.t 204) (.t 205) 8),
oQ 207 203 false (.fieldAddr (.t 206) 4),
oQ 208 203 false (.fieldAddr (.t 207) 1),
oQ 209 203 false (.load (.t 208) none),
oQ 210 203 false (.fieldAddr (.t 7) 3),
oQ 211 203 false (.load (.t 210) none),
oN 212 203 false 26,
oQ 213 203 false (.idxS (.t 211) (.t 212) 2),
oQ 214 203 false (.fieldAddr (.t 213) 1),
oQ 215 203 false (.load (.t 214) none),
oQ 216 203 false (.bin .gtr (.t 209) (.t 215)),
oQ 217 188 true (.pick (.t 203) (.k (.bool true)) (.t 216)),
oP 218 (.pick (.t 188) (.t 217) (.k (.bool false)))])
 (.cond (.t 218)
 (.seq
 (.ops [
oP 6 (.move (.k (.bool false)))])
 .ret)
 .skip))
 pp5)))
 (.ops [
oC 349 .add 181 1,
oM 181 349]))))
def body5b : ACode := (.seq
 (.ops [
oB 142 .lss 141 140])
 (.seq
 (.cond (.t 142)
 .skip
 (.exit 2))
 (.seq
 (.block 3
 (.seq
 (.ops [
oI 143 139 141 5,
oD 144 143 5,
oP 21 (.alloc [.int .i64 0, .int .i64 0, .int .i64 0, .int .i64 0, .int .i64 0]),
oT 21 144 5])
 (.seq
 (.ops [
oD 146 7 4,
oD 147 8 2,
oD 148 9 6,
oD 149 21 5,
oA 150 16 [.t 146, .t 147, .t 148, .t 149] false,
oM 145 150,
oX 151 145 0,
oX 152 145 1,
oM 22 151,
oM 23 152])
 (.seq
 (.ops [
oD 154 7 4,
oD 155 8 2,
oM 156 22,
oA 157 21 [.t 154, .t 155, .t 156] false,
oM 153 157,
oX 158 153 0,
oX 159 153 1,
oM 24 158,
oM 25 159])
 (.seq
 (.seq
 (.ops [
oM 160 23,
oC 161 .neq 160 0,
oM 162 161,
oN 163 162 false 25,
oQ 164 162 false (.bin .neq (.t 163) (oK 0)),
oP 165 (.pick (.t 162) (.k (.bool true)) (.t 164)),
oM 166 165,
oN 167 166 false 22,
oN 168 166 false 15,
oQ 169 166 false (.call (.k (.func (.func 26) ⟨[]⟩ ⟨[]⟩)) [.t 167, .t 168] false),
oQ 170 166 false (.not (.t 169)),
oP 171 (.pick (.t 166) (.k (.bool true)) (.t 170)),
oM 172 171,
oN 173 172 false 24,
oQ 174 172 false (.len (.t 173)),
oN 175 172 false 15,
oQ 176 172 false (.len (.t 175)),
oQ 177 172 false (.bin .neq (.t 174) (.t 176)),
oP 178 (.pick (.t 172) (.k (.bool true)) (.t 177))])
 (.cond (.t 178)
 (.seq
 (.ops [
oP 6 (.move (.k (.bool false)))])
 .ret)
 .skip))
 (.seq
 (.ops [
oM 179 22,
oP 180 (.len (.t 179)),
oP 181 (.move (oK 0))])
 (.block 4
 (.loop
 body5c))))))))
 (.ops [
oC 350 .add 141 1,
oM 141 350]))))
structure Two (N : Nat) (A : Hp) (k1 k2 : Nat) (c1 : List Value) (v1 : Value) (c2 : List Value) (v2 : Value) : Prop where
  a : AccS N A k1 c1 v1
  b : AccS N A k2 c2 v2
  sep : ∀ x k n c y k' n' c', v1 = .slice (some ⟨x, 0, k⟩) n c → v2 = .slice (some ⟨y, 0, k'⟩) n' c' → x ≠ y
theorem Two.mono {N : Nat} {A A' : Hp} {k1 k2 : Nat} {c1 c2 : List Value} {v1 v2 : Value} (h : Two N A k1 k2 c1 v1 c2 v2) (hA : ∀ x, x < A.n → A'.get x = A.get x) : Two N A' k1 k2 c1 v1 c2 v2 := ⟨h.a.mono hA, h.b.mono hA, h.sep⟩
theorem Two.swap {N : Nat} {A : Hp} {k1 k2 : Nat} {c1 c2 : List Value} {v1 v2 : Value} (h : Two N A k1 k2 c1 v1 c2 v2) : Two N A k2 k1 c2 v2 c1 v1 := ⟨h.b, h.a, fun x k n c y k' n' c' h1 h2 e => h.sep y k' n' c' x k n c h2 h1 e.symm⟩
theorem AccS.lt {N k : Nat} {A : Hp} {cs : List Value} {sv : Value} (h : AccS N A k cs sv) {y : Nat} {k' : Option Nat} {n c : Nat} (e : sv = .slice (some ⟨y, 0, k'⟩) n c) : y < A.n ∧ N ≤ y := by
  rcases h with ⟨h1, _⟩ | ⟨b, m, h1, h2, h3, _⟩
  · rw [h1] at e; cases e
  · rw [h1] at e; cases e
    exact ⟨Hp.lt_of_get h2, h3⟩
theorem Two.add {N g : Nat} {A : Hp} {esz bytes n k2 : Nat} {cs new c2 : List Value} {ro : Bool} {sv v2 : Value} (h : Two N A esz k2 cs sv c2 v2) (hg : g ≤ N) (hN : N ≤ A.n) (hnew : new.length = esz) (hesz : 0 < esz) (hcell : new.all isCell = true) (hl : cs.length = n * esz)
    (hroom : (n + 1) * bytes ≤ room ∧ n + 1 ≤ room) : ∃ p m c A', appendA g (A.push (.cells new ro)) esz bytes sv (.slice (some ⟨A.n, 0, some esz⟩) 1 1) = some (.slice p m c, A') ∧ Two N A' esz k2 (cs ++ new) (.slice p m c) c2 v2 ∧ (∀ z, z < N → A'.get z = A.get z) ∧ A.n ≤ A'.n ∧ (∀ z, z < A.n → (∀ k n c, sv ≠ .slice (some ⟨z, 0, k⟩) n c) → A'.get z = A.get z) := by
  have hcells : cellsAt (A.push (.cells new ro)) (1 * esz) (.slice (some ⟨A.n, 0, some esz⟩) 1 1) = some new := by
    simp only [cellsAt, get_push_new, Nat.one_mul]
    rw [if_pos (by omega)]
    subst hnew
    simp
  rcases h.a with ⟨e1, e2⟩ | ⟨b, k, e1, hb, hNb, hk, hk0⟩
  · subst e1 e2
    have hn : n = 0 := by
      rcases Nat.eq_zero_or_pos n with h | h
      · exact h
      · have := Nat.mul_pos h hesz
        simp only [List.length_nil] at hl
        omega
    subst hn
    refine ⟨some ⟨A.n + 1, 0, some esz⟩, 1, 1, (A.push (.cells new ro)).push (.cells new false), ?_, ⟨.inr ⟨A.n + 1, 1, rfl, by rw [get_push_eq (by simp)]; simp, by omega, by simp [hnew], by omega⟩, ?_, ?_⟩, fun z hz => ?_, by simp; omega, fun z hz _ => by rw [get_push_old (by simp; omega), get_push_old hz]⟩
    · have hr : 1 * bytes ≤ room ∧ 1 ≤ room := by simpa using hroom
      unfold appendA
      simp only [hcells]
      rw [if_pos ⟨hcell, hesz⟩]
      simp only [if_neg (show ¬ (1 = 0) by decide)]
      rw [if_pos hr]
      rfl
    · exact h.b.mono fun x hx => by rw [get_push_old (by simp; omega), get_push_old hx]
    · intro x k n c y k' n' c' h1 h2 e
      cases h1
      have := (AccS.lt h.b h2).1
      omega
    · rw [get_push_old (by simp; omega), get_push_old (by omega)]
  · subst e1
    have hkn : k = n := Nat.eq_of_mul_eq_mul_right hesz (hk.symm.trans hl)
    subst hkn
    have hbl := Hp.lt_of_get hb
    have hb1 : (A.push (.cells new ro)).get b = some (.cells cs false) := by rw [get_push_old hbl]; exact hb
    refine ⟨some ⟨A.n + 1, 0, some esz⟩, k + 1, k + 1, ((A.push (.cells new ro)).set b none).push (.cells (cs ++ new) false), ?_, ⟨.inr ⟨A.n + 1, k + 1, rfl, by rw [get_push_eq (by simp)], by omega, by simp [hnew, hk, Nat.add_mul], by omega⟩, ?_, ?_⟩, fun z hz => ?_, by simp; omega, fun z hz hne => by rw [get_push_old (by simp; omega), get_set_ne (by simp; omega) (fun e => hne (some esz) k k (by rw [e])), get_push_old hz]⟩
    · unfold appendA
      simp only [hcells]
      rw [if_pos ⟨hcell, hesz⟩]
      simp only [if_neg (show ¬ (1 = 0) by decide), hb1]
      rw [if_pos ⟨by omega, hroom.1, hroom.2, trivial⟩, if_pos (by omega)]
      simp
    · rcases h.b with hh | ⟨y, m, q1, q2, q3, q4, q5⟩
      · exact .inl hh
      · have hy := Hp.lt_of_get q2
        have hne := h.sep _ _ _ _ _ _ _ _ rfl q1
        refine .inr ⟨y, m, q1, ?_, q3, q4, q5⟩
        rw [get_push_old (by simp; omega), get_set_ne (by simp; omega) (fun e => hne e.symm), get_push_old hy]
        exact q2
    · intro x k n c y k' n' c' h1 h2 e
      cases h1
      have := (AccS.lt h.b h2).1
      omega
    · rw [get_push_old (by simp; omega), get_set_ne (by simp; omega) (by omega), get_push_old (by omega)]
theorem flat_getL {f : Nat → List Int} {k : Nat} (hf : ∀ i, (f i).length = k) : ∀ {l : List Nat} {c r : Nat} (hc : c < l.length), r < k → gi (l.flatMap f) (c * k + r) = gi (f l[c]) r
  | x :: l, 0, r, _, hr => by
    rw [List.flatMap_cons]
    unfold gi
    simp only [List.getD_eq_getElem?_getD]
    rw [List.getElem?_append_left (by rw [hf]; omega)]
    simp
  | x :: l, c + 1, r, hc, hr => by
    rw [List.flatMap_cons]
    have ih := flat_getL hf (l := l) (c := c) (r := r) (by simpa using hc) hr
    unfold gi at ih ⊢
    simp only [List.getD_eq_getElem?_getD] at ih ⊢
    rw [Nat.succ_mul, List.getElem?_append_right (by rw [hf]; omega), hf, show c * k + k + r - k = c * k + r by omega]
    simpa using ih
theorem flat_lenL {f : Nat → List Int} {k : Nat} (hf : ∀ i, (f i).length = k) : ∀ {l : List Nat}, (l.flatMap f).length = l.length * k
  | [] => by simp
  | x :: l => by rw [List.flatMap_cons, List.length_append, hf, flat_lenL hf, List.length_cons, Nat.succ_mul]; omega
def anyS (n : Nat) (ls : List Int) (i : Nat) : Src := ⟨1 + (gi ls (i * 4)).tmod 3, (gi ls (i * 4 + 1)).tmod n, 1 + (gi ls (i * 4 + 2)).tmod 10, gi ls (i * 4 + 3), gi ls (i * 4 + 3) + (gi ls (i * 4)).tmod 5000⟩
def an1 (n : Nat) (ls : List Int) (i : Nat) : List Int := [(anyS n ls i).k, (anyS n ls i).c, (anyS n ls i).cl, (anyS n ls i).lo, (anyS n ls i).hi]
def keepB (kp : Int) (i : Nat) : Bool := decide (IntKind.u8.wrap ((BitVec.ofInt IntKind.u8.bits (kp.fdiv (2 ^ Min.min i 8)) &&& BitVec.ofInt IntKind.u8.bits 1).toNat : Nat) = 1)
def anL (m : Nat) : List Nat := List.range m
def fwL (kp : Int) (m : Nat) : List Nat := (List.range m).filter (keepB kp)
def anZ (n : Nat) (ls : List Int) (l : List Nat) : List Int := l.flatMap (an1 n ls)
theorem anZ_len {n : Nat} {ls : List Int} {l : List Nat} : (anZ n ls l).length = l.length * 5 := flat_lenL (f := an1 n ls) (k := 5) fun _ => rfl
theorem anZ_src {n : Nat} {ls : List Int} {l : List Nat} {j : Nat} (hj : j < l.length) : srcAt (anZ n ls l) j = anyS n ls l[j] := by
  have g := fun r hr => flat_getL (f := an1 n ls) (k := 5) (fun _ => rfl) (l := l) (c := j) (r := r) hj hr
  have g0 := g 0 (by decide)
  rw [Nat.add_zero] at g0
  unfold srcAt anZ
  rw [g0, g 1 (by decide), g 2 (by decide), g 3 (by decide), g 4 (by decide)]
  rfl
theorem anZ_snoc {n : Nat} {ls : List Int} {l : List Nat} {i : Nat} : anZ n ls (l ++ [i]) = anZ n ls l ++ an1 n ls i := by unfold anZ; simp
theorem any_err {n : Nat} {ls : List Int} (hn : 0 < n) (hl : ∀ i, 0 ≤ gi ls i ∧ gi ls i ≤ 65535) (i : Nat) : (anyS n ls i).err n = 0 := by
  have m0 := tmod_rng (hl (i * 4)).1 (show (0 : Int) < 3 by decide)
  have m1 := tmod_rng (hl (i * 4 + 1)).1 (show (0 : Int) < n by omega)
  have m2 := tmod_rng (hl (i * 4 + 2)).1 (show (0 : Int) < 10 by decide)
  have m3 := tmod_rng (hl (i * 4)).1 (show (0 : Int) < 5000 by decide)
  have l3 := hl (i * 4 + 3)
  unfold Src.err srcErr anyS
  have e : inS (gi ls (i * 4 + 3)) (gi ls (i * 4 + 3) + (gi ls (i * 4)).tmod 5000) 0 1000000000 = true := inS_iff.2 (by omega)
  simp only [e]
  rw [if_neg (by simp; omega), if_neg (by simp; omega), if_neg (by simp; omega)]
section
variable {g : Nat} {D : List Nat} {rd : Option Nat} {Q : Ex → St → Prop} {A : Hp} {V : Value → Hp → Prop}
theorem keep_bit {kp : Int} {i : Nat} : ∃ a b : Int, binA .shr (.int .u8 kp) (.int .i64 i) = some (.int .u8 a) ∧ binA .and (.int .u8 a) (.int .u8 1) = some (.int .u8 b) ∧ binA .eql (.int .u8 b) (.int .u8 1) = some (.bool (keepB kp i)) := by
  refine ⟨kp.fdiv (2 ^ Min.min i 8), _, ?_, rfl, ?_⟩
  · show (if (i : Int) < 0 then none else some (Value.int .u8 (kp.fdiv (2 ^ (Min.min (i : Int).toNat 8))))) = _
    rw [if_neg (by omega), Int.toNat_natCast]
  · rfl
set_option maxHeartbeats 1000000 in
theorem loop5a {n m b7 : Nat} {w h s kp : Int} {sl lv : Value} {ls : List Int} {A0 : Hp} {T0 : List Value} {N : Nat} (hm : m < 1000000) (hn : 0 < n ∧ n < 1000000) (hl : ∀ i, 0 ≤ gi ls i ∧ gi ls i ≤ 65535) (hg : g ≤ N) (hN : N ≤ A0.n) (hlen : lenV sl = some (.int .i64 n))
    (h7 : A0.get b7 = some (.cells [.int .i64 w, .int .i64 h, .int .i64 s, sl] false)) (hb7 : b7 < N) (hr : ∀ A, (∀ x, x < N → A.get x = A0.get x) → RdS A 4 m (kints .u16 ls) lv)
    (hQ : ∀ T' A' v1 v2, A0.n ≤ A'.n → (∀ x, x < N → A'.get x = A0.get x) → Two N A' 5 5 (ints (anZ n ls (anL m))) v1 (ints (anZ n ls (fwL kp m))) v2 → tget T' 10 = v1 → tget T' 11 = v2 → (∀ i, i < 10 → tget T' i = tget T0 i) → Q (.exit 0) ⟨T', D, A'⟩) :
    ∀ (k i : Nat) (T : List Value) (A : Hp) (v1 v2 : Value), i + k = m → A0.n ≤ A.n → (∀ x, x < N → A.get x = A0.get x) → Two N A 5 5 (ints (anZ n ls (anL i))) v1 (ints (anZ n ls (fwL kp i))) v2 → tget T 10 = v1 → tget T 11 = v2 → (∀ i, i < 10 → tget T i = tget T0 i) →
      tget T0 2 = .int .u8 kp → tget T0 7 = ptrV b7 → tget T 49 = lv → tget T 50 = .int .i64 m → tget T 51 = .int .i64 i → W AP KL g rd (.loop body5a) ⟨T, D, A⟩ Q := by
  intro k
  induction k with
  | zero =>
    intro i T A v1 v2 hi hnA hold hacc t10 t11 hT t2' t7' t49 t50 t51
    have : i = m := by omega
    rw [W_loop]
    simp (disch := as_aux_lemma => first | omega | simp only [hDs] <;> omega | simp [isCell]) [hRs, takeMarks, resA, resAll, resOne, Value.cells, body5a, t50, t51, show ¬ ((i : Int) < m) by omega]
    refine hQ _ A v1 v2 hnA hold (by rw [← this]; exact hacc) (by simp [t10]) (by simp [t11]) fun j hj => ?_
    simp only [tget_tset]
    rw [if_neg (by omega)]
    exact hT j hj
  | succ k ih =>
    intro i T A v1 v2 hi hnA hold hacc t10 t11 hT t2' t7' t49 t50 t51
    have t2 := (hT 2 (by omega)).trans t2'
    have t7 := (hT 7 (by omega)).trans t7'
    obtain ⟨y, cy, ry, hyv, hy⟩ := (hr A hold).at (i := i) (by omega)
    have hyl : ls.length = m * 4 := by have := (hr A hold).1; rwa [kints_length] at this
    have hb : A.get b7 = _ := (hold b7 hb7).trans h7
    have nb := Hp.lt_of_get hb
    have ny := Hp.lt_of_get hy
    have l0 := hl (i * 4)
    have l1 := hl (i * 4 + 1)
    have l2 := hl (i * 4 + 2)
    have l3 := hl (i * 4 + 3)
    have m0 := tmod_rng l0.1 (show (0 : Int) < 3 by decide)
    have m1 := tmod_rng l1.1 (show (0 : Int) < n by omega)
    have m2 := tmod_rng l2.1 (show (0 : Int) < 10 by decide)
    have m3 := tmod_rng l0.1 (show (0 : Int) < 5000 by decide)
    rw [hyv] at t49
    obtain ⟨ka, kb, e1, e2, e3⟩ := keep_bit (kp := kp) (i := i)
    obtain ⟨B, hB⟩ : ∃ B, B = A.push (.cells [.int .u16 (gi ls (i * 4)), .int .u16 (gi ls (i * 4 + 1)), .int .u16 (gi ls (i * 4 + 2)), .int .u16 (gi ls (i * 4 + 3))] false) := ⟨_, rfl⟩
    have kB : Ext' A B := by rw [hB]; exact Ext'.push _ _
    have gB : B.get A.n = some (.cells [.int .u16 (gi ls (i * 4)), .int .u16 (gi ls (i * 4 + 1)), .int .u16 (gi ls (i * 4 + 2)), .int .u16 (gi ls (i * 4 + 3))] false) := by rw [hB]; exact get_push_new
    have nB := kB.1
    have hbB := kB.get hb
    rw [W_loop]
    simp (disch := as_aux_lemma => first | omega | simp only [hDs] <;> omega | simp [isCell]) [hRs, takeMarks, resA, resAll, resOne, Value.cells, body5a, t50, t51, show (i : Int) < m by omega, t49, idxSA_ok, hy, kints_4, storeB_cells, setRange_all]
    rw [← hB]
    simp (disch := as_aux_lemma => first | omega | simp only [hDs] <;> omega | simp [isCell]) [hRs, takeMarks, resA, resAll, resOne, Value.cells, idxAA_ok, gB, hbB, t7, ptrV, hlen, toIntA_int, wrId (n := gi ls (i * 4)) (by omega) (by omega), wrId (n := gi ls (i * 4 + 1)) (by omega) (by omega), wrId (n := gi ls (i * 4 + 2)) (by omega) (by omega), wrId (n := gi ls (i * 4 + 3)) (by omega) (by omega), binA_rem, show ¬ ((n : Int) = 0) by omega, show n ≠ 0 by omega, wrId (n := 1 + (gi ls (i * 4)).tmod 3) (by omega) (by omega), wrId (n := 1 + (gi ls (i * 4 + 2)).tmod 10) (by omega) (by omega), wrId (n := gi ls (i * 4 + 3) + (gi ls (i * 4)).tmod 5000) (by omega) (by omega)]
    refine w25 (by omega) fun A1 k1 => ?_
    have k01 := kB.trans k1
    have n1 := k1.1
    obtain ⟨C, hC⟩ : ∃ C, C = A1.push (.cells (ints (an1 n ls i)) false) := ⟨_, rfl⟩
    have kC : Ext' A1 C := by rw [hC]; exact Ext'.push _ _
    have gC : C.get A1.n = some (.cells (ints (an1 n ls i)) false) := by rw [hC]; exact get_push_new
    have nC : C.n = A1.n + 1 := by rw [hC]; rfl
    have hC2 := hacc.mono (k01.trans kC).2
    obtain ⟨p, q, c, A2, ea, hacc2, hold2, hn2, fr2⟩ := hC2.add (g := g) (bytes := 40) (new := ints (an1 n ls i)) (ro := false) (n := i) hg (by omega) rfl (by decide) (ints_isCell _) (by rw [ints_length, anZ_len]; simp [anL]) (by unfold room; omega)
    have g14 : A2.get A1.n = some (.cells (ints (an1 n ls i)) false) := by
      rw [fr2 A1.n (by omega) (fun k' n' c' e => by have := (AccS.lt hacc.a e).1; omega)]
      exact gC
    have n14 := Hp.lt_of_get g14
    have ea' : appendA g ((A1.push (.cells [.int .i64 (1 + (gi ls (i * 4)).tmod 3), .int .i64 ((gi ls (i * 4 + 1)).tmod n), .int .i64 (1 + (gi ls (i * 4 + 2)).tmod 10), .int .i64 (gi ls (i * 4 + 3)), .int .i64 (gi ls (i * 4 + 3) + (gi ls (i * 4)).tmod 5000)] false)).push (.cells [.int .i64 (1 + (gi ls (i * 4)).tmod 3), .int .i64 ((gi ls (i * 4 + 1)).tmod n), .int .i64 (1 + (gi ls (i * 4 + 2)).tmod 10), .int .i64 (gi ls (i * 4 + 3)), .int .i64 (gi ls (i * 4 + 3) + (gi ls (i * 4)).tmod 5000)] false)) 5 40 v1 (.slice (some ⟨A1.n + 1, 0, some 5⟩) 1 1) = some (.slice p q c, A2) := by
      rw [hC] at ea; exact ea
    have g14' : A2.get A1.n = some (.cells [.int .i64 (1 + (gi ls (i * 4)).tmod 3), .int .i64 ((gi ls (i * 4 + 1)).tmod n), .int .i64 (1 + (gi ls (i * 4 + 2)).tmod 10), .int .i64 (gi ls (i * 4 + 3)), .int .i64 (gi ls (i * 4 + 3) + (gi ls (i * 4)).tmod 5000)] false) := g14
    have ez : ints (anZ n ls (anL i)) ++ ints (an1 n ls i) = ints (anZ n ls (anL (i + 1))) := by unfold anL; rw [List.range_succ, anZ_snoc, ints_append]
    rw [ez] at hacc2
    have fz1 : keepB kp i = true → ints (anZ n ls (fwL kp i)) ++ ints (an1 n ls i) = ints (anZ n ls (fwL kp (i + 1))) := fun h => by unfold fwL; rw [List.range_succ, List.filter_append, List.filter_cons_of_pos h, List.filter_nil, anZ_snoc, ints_append]
    have fz0 : ¬ keepB kp i = true → fwL kp (i + 1) = fwL kp i := fun h => by unfold fwL; rw [List.range_succ, List.filter_append, List.filter_cons_of_neg h, List.filter_nil, List.append_nil]
    have hfl : (fwL kp i).length ≤ i := by unfold fwL; exact Nat.le_trans (List.length_filter_le _ _) (by simp)
    have w1 := wrId (n := (i : Int) + 1) (by omega) (by omega)
    simp (disch := as_aux_lemma => first | omega | simp only [hDs] <;> omega | simp [isCell]) [hRs, takeMarks, resA, resAll, resOne, Value.cells, spn, fillA, setRange, slitA, storeB_cells, setRange_all, set_push_eq, t10, ea', t2, e1, e2, e3]
    by_cases hb : keepB kp i = true
    · obtain ⟨p', q', c', A3, eb, hacc3, hold3, hn3, _⟩ := hacc2.swap.add (g := g) (bytes := 40) (new := ints (an1 n ls i)) (ro := false) (n := (fwL kp i).length) hg (by omega) rfl (by decide) (ints_isCell _) (by rw [ints_length, anZ_len]) (by unfold room; omega)
      have eb' : appendA g (A2.push (.cells [.int .i64 (1 + (gi ls (i * 4)).tmod 3), .int .i64 ((gi ls (i * 4 + 1)).tmod n), .int .i64 (1 + (gi ls (i * 4 + 2)).tmod 10), .int .i64 (gi ls (i * 4 + 3)), .int .i64 (gi ls (i * 4 + 3) + (gi ls (i * 4)).tmod 5000)] false)) 5 40 v2 (.slice (some ⟨A2.n, 0, some 5⟩) 1 1) = some (.slice p' q' c', A3) := eb
      simp (disch := as_aux_lemma => first | omega | simp only [hDs] <;> omega | simp [isCell]) [hRs, takeMarks, resA, resAll, resOne, Value.cells, hb, t11, g14', fillA, setRange, slitA, eb', t51, w1]
      rw [fz1 hb] at hacc3
      refine ih (i + 1) _ A3 _ _ (by omega) (by omega) (fun x hx => by rw [hold3 x hx, hold2 x hx, (k01.trans kC).2 x (by omega), hold x hx]) hacc3.swap (by simp) (by simp) (fun j hj => ?_) t2' t7' ?_ ?_ ?_
      · simp only [tget_tset]
        repeat (rw [if_neg (by omega)])
        exact hT j hj
      · simp [t49, hyv]
      · simp [t50]
      · simp [w1]
    · simp (disch := as_aux_lemma => first | omega | simp only [hDs] <;> omega | simp [isCell]) [hRs, takeMarks, resA, resAll, resOne, Value.cells, hb, t51, w1]
      rw [← fz0 hb] at hacc2
      refine ih (i + 1) _ A2 _ v2 (by omega) (by omega) (fun x hx => by rw [hold2 x hx, (k01.trans kC).2 x (by omega), hold x hx]) hacc2 (by simp) (by simp [t11]) (fun j hj => ?_) t2' t7' ?_ ?_ ?_
      · simp only [tget_tset]
        repeat (rw [if_neg (by omega)])
        exact hT j hj
      · simp [t49, hyv]
      · simp [t50]
      · simp [w1]
end
end Go.Ab.Wave
namespace Go.Ab.Wave
open Go Go.Ab
def mixE (n : Nat) (f : Nat → Bool) (a w : List Int) (k : Nat) : List Bool := (List.range (n * 8)).map fun o => if o < k then f o || decide (gi a o = gi w o) else f o
theorem mixE_len {n : Nat} {f : Nat → Bool} {a w : List Int} {k : Nat} : (mixE n f a w k).length = n * 8 := by simp [mixE]
theorem mixE_at {n : Nat} {f : Nat → Bool} {a w : List Int} {k o : Nat} (h : o < n * 8) : (mixE n f a w k)[o]? = some (if o < k then f o || decide (gi a o = gi w o) else f o) := by simp [mixE, h]
theorem mixE_get {n : Nat} {f : Nat → Bool} {a w : List Int} {k : Nat} (h : k < n * 8) : cellAt (bls (mixE n f a w k)) k = some (.bool (f k)) := by
  rw [bls_get (by rw [mixE_len]; exact h), List.getD_eq_getElem?_getD, mixE_at h]
  simp
theorem mixE_set {n : Nat} {f : Nat → Bool} {a w : List Int} {k : Nat} (h : k < n * 8) : setRange (bls (mixE n f a w k)) k [.bool (f k || decide (gi a k = gi w k))] = bls (mixE n f a w (k + 1)) := by
  apply List.ext_getElem?
  intro o
  unfold setRange bls
  by_cases ho : o < n * 8
  · rw [List.getElem?_map, mixE_at ho]
    by_cases h1 : o < k
    · rw [List.append_assoc, List.getElem?_append_left (by simp [mixE_len]; omega), List.getElem?_take_of_lt h1, List.getElem?_map, mixE_at ho, if_pos h1, if_pos (by omega)]
    · by_cases h2 : o = k
      · subst h2
        rw [List.append_assoc, List.getElem?_append_right (by simp [mixE_len]; omega)]
        simp [mixE_len, show min o (n * 8) = o by omega]
      · rw [List.getElem?_append_right (by simp [mixE_len]; omega)]
        have e : min k (n * 8) = k := by omega
        simp only [List.length_append, List.length_take, List.length_map, mixE_len, e, List.length_cons, List.length_nil]
        rw [List.getElem?_drop, show k + (0 + 1) + (o - (k + (0 + 1))) = o by omega, List.getElem?_map, mixE_at ho, if_neg h1, if_neg (by omega)]
  · rw [List.getElem?_eq_none (by simp [mixE_len]; omega), List.getElem?_eq_none (by simp [mixE_len]; omega)]
theorem mixE_zero {n : Nat} {f : Nat → Bool} {a w : List Int} : mixE n f a w 0 = (List.range (n * 8)).map f := by simp [mixE]
theorem mixE_all {n : Nat} {f : Nat → Bool} {a w : List Int} : mixE n f a w (n * 8) = (List.range (n * 8)).map fun o => f o || decide (gi a o = gi w o) := by
  unfold mixE
  refine List.map_congr_left fun o ho => ?_
  rw [if_pos (List.mem_range.1 ho)]
def pairs16 (a w : List Int) (i : Nat) : List Int := [gi a (i * 8), gi w (i * 8), gi a (i * 8 + 1), gi w (i * 8 + 1), gi a (i * 8 + 2), gi w (i * 8 + 2), gi a (i * 8 + 3), gi w (i * 8 + 3), gi a (i * 8 + 4), gi w (i * 8 + 4), gi a (i * 8 + 5), gi w (i * 8 + 5), gi a (i * 8 + 6), gi w (i * 8 + 6), gi a (i * 8 + 7), gi w (i * 8 + 7)]
theorem pairs16_get {a w : List Int} {i j : Nat} (hj : j < 8) : gi (pairs16 a w i) (j * 2) = gi a (i * 8 + j) ∧ gi (pairs16 a w i) (j * 2 + 1) = gi w (i * 8 + j) := by
  have : j = 0 ∨ j = 1 ∨ j = 2 ∨ j = 3 ∨ j = 4 ∨ j = 5 ∨ j = 6 ∨ j = 7 := by omega
  rcases this with rfl | rfl | rfl | rfl | rfl | rfl | rfl | rfl <;> exact ⟨rfl, rfl⟩
section
variable {g : Nat} {D : List Nat} {rd : Option Nat} {Q : Ex → St → Prop} {A : Hp} {V : Value → Hp → Prop}
theorem loop5p {n i e pb : Nat} {f : Nat → Bool} {a w : List Int} {A0 : Hp} {T0 : List Value} (hn : n < 1000000) (hi : i < n) (hg : g ≤ e) (hep : e ≠ pb) (hpb : A0.get pb = some (.cells (ints (pairs16 a w i)) false))
    (hQ : ∀ T' A', Keep (fun z => z = e) A0 A' → A'.get e = some (.cells (bls (mixE n f a w (i * 8 + 8))) false) → (∀ i, (i < 27 ∨ (130 ≤ i ∧ i < 182)) → tget T' i = tget T0 i) → Q (.exit 6) ⟨T', D, A'⟩) :
    ∀ (k j : Nat) (T : List Value) (A : Hp), j + k = 8 → Keep (fun z => z = e) A0 A → A.get e = some (.cells (bls (mixE n f a w (i * 8 + j))) false) → (∀ i, (i < 27 ∨ (130 ≤ i ∧ i < 182)) → tget T i = tget T0 i) →
      tget T0 19 = .slice (some ⟨e, 0, some 8⟩) n n → tget T0 26 = .int .i64 i → tget T 323 = .slice (some ⟨pb, 0, some 2⟩) 8 8 → tget T 324 = .int .i64 8 → tget T 325 = .int .i64 j → W AP KL g rd (.loop body5p) ⟨T, D, A⟩ Q := by
  intro k
  induction k with
  | zero =>
    intro j T A hj kA ge hT t19' t26' t323 t324 t325
    have : j = 8 := by omega
    subst this
    rw [W_loop]
    simp (disch := as_aux_lemma => first | omega | simp only [hDs] <;> omega | simp [isCell]) [hRs, takeMarks, resA, resAll, resOne, Value.cells, body5p, t324, t325]
    refine hQ _ A kA ge fun x hx => ?_
    simp only [tget_tset]
    rw [if_neg (by omega)]
    exact hT x hx
  | succ k ih =>
    intro j T A hj kA ge hT t19' t26' t323 t324 t325
    have t19 := (hT 19 (by omega)).trans t19'
    have t26 := (hT 26 (by omega)).trans t26'
    have gp : A.get pb = _ := (kA.2 pb (Hp.lt_of_get hpb) (fun h => hep h.symm)).trans hpb
    obtain ⟨p1, p2⟩ := pairs16_get (a := a) (w := w) (i := i) (show j < 8 by omega)
    have ne := Hp.lt_of_get ge
    have np := Hp.lt_of_get gp
    have hlt : i * 8 + j < n * 8 := by omega
    have hme := mixE_get (f := f) (a := a) (w := w) hlt
    have hms := mixE_set (f := f) (a := a) (w := w) hlt
    have hbl : (bls (mixE n f a w (i * 8 + j))).length = n * 8 := by unfold bls; rw [List.length_map, mixE_len]
    have hpl : (pairs16 a w i).length = 16 := rfl
    obtain ⟨B, hB⟩ : ∃ B, B = A.push (.cells [.int .i64 (gi a (i * 8 + j)), .int .i64 (gi w (i * 8 + j))] false) := ⟨_, rfl⟩
    have kB : Ext' A B := by rw [hB]; exact Ext'.push _ _
    have gB : B.get A.n = some (.cells [.int .i64 (gi a (i * 8 + j)), .int .i64 (gi w (i * 8 + j))] false) := by rw [hB]; exact get_push_new
    have geB := kB.get ge
    have nB := kB.1
    have sb : ∀ b : Bool, storeB (some (.cells (bls (mixE n f a w (i * 8 + j))) false)) g B e (i * 8 + j) [.bool b] 1 = some (undef, B.set e (some (.cells (setRange (bls (mixE n f a w (i * 8 + j))) (i * 8 + j) [.bool b]) false))) := fun b => storeB_cells rfl hg (by rw [hbl]; omega) rfl
    have fin : ∀ T' : List Value, (∀ i, (i < 27 ∨ (130 ≤ i ∧ i < 182)) → tget T' i = tget T i) → tget T' 323 = tget T 323 → tget T' 324 = tget T 324 → tget T' 325 = .int .i64 ((j : Int) + 1) → W AP KL g rd (.loop body5p) ⟨T', D, B.set e (some (.cells (bls (mixE n f a w (i * 8 + j + 1))) false))⟩ Q := fun T' h1 h2 h3 h4 =>
      ih (j + 1) T' _ (by omega) (Keep.put' (kA.trans (kB.keep _)) (by omega) rfl) (get_set_same geB) (fun x hx => (h1 x hx).trans (hT x hx)) t19' t26' (h2.trans t323) (h3.trans t324) (by rw [h4]; simp)
    have w1 := wrId (n := (j : Int) + 1) (by omega) (by omega)
    rw [W_loop]
    simp (disch := as_aux_lemma => first | omega | simp only [hDs] <;> omega | simp [isCell]) [hRs, takeMarks, resA, resAll, resOne, Value.cells, body5p, t324, t325, show (j : Int) < 8 by omega, t323, idxSA_ok, gp, ints_two, p1, p2, storeB_cells, setRange_all]
    rw [← hB]
    cases hf : f (i * 8 + j)
    · rw [hf] at hme hms
      simp (disch := as_aux_lemma => first | omega | simp only [hDs] <;> omega | simp [isCell]) [hRs, takeMarks, resA, resAll, resOne, Value.cells, t19, t26, show (i : Int) < n by omega, idxSA_ok, idxAA_ok, show (j : Int) < 8 by omega, geB, hme, gB, sb, hms, t325, w1]
      rw [Bool.false_or] at hms
      rw [hms]
      refine fin _ (fun x hx => ?_) ?_ ?_ ?_
      · simp only [tget_tset]
        repeat (rw [if_neg (by omega)])
      · simp
      · simp
      · simp [w1]
    · rw [hf] at hme hms
      rw [Bool.true_or] at hms
      simp (disch := as_aux_lemma => first | omega | simp only [hDs] <;> omega | simp [isCell]) [hRs, takeMarks, resA, resAll, resOne, Value.cells, t19, t26, show (i : Int) < n by omega, idxSA_ok, idxAA_ok, show (j : Int) < 8 by omega, geB, hme, gB, sb, hms, t325, w1]
      refine fin _ (fun x hx => ?_) ?_ ?_ ?_
      · simp only [tget_tset]
        repeat (rw [if_neg (by omega)])
      · simp
      · simp
      · simp [w1]
structure AnyH (P : Par) (o w : List Int) (b7 : Nat) (ov wv dv' kv : Value) (A : Hp) : Prop where
  g7 : A.get b7 = some (.cells [.int .i64 P.w, .int .i64 P.h, .int .i64 P.s, P.sl] false)
  gr : groundOf A P.sl = some P.l
  ro : RdS A 8 P.l.length (ints o) ov
  rw' : RdS A 8 P.l.length (ints w) wv
  rd : RdS A 1 P.l.length (dryL P.shi (flat2 P.l) w P.l.length) dv'
  rk : RdS A 1 P.l.length (dryL P.shi (flat2 P.l) o P.l.length) kv
theorem dryL_at {hi : Int} {gs zs : List Int} {n i : Nat} (h : i < n) : cellAt (dryL hi gs zs n) i = some (.bool (dryB hi gs zs i)) := by simp [dryL, cellAt, h]
set_option maxRecDepth 100000 in
set_option maxHeartbeats 4000000 in
theorem pp5_run {n i e x1 c1 x2 c2 : Nat} {r1 r2 : Bool} {f : Nat → Bool} {a w : List Int} {A : Hp} {T : List Value} (hn : n < 1000000) (hi : i < n) (hg : g ≤ e) (hal : a.length = n * 8) (hwl : w.length = n * 8) (ge : A.get e = some (.cells (bls (mixE n f a w (i * 8))) false))
    (g1 : A.get x1 = some (.cells (ints a) r1)) (g2 : A.get x2 = some (.cells (ints w) r2)) (t15 : tget T 15 = .slice (some ⟨x2, 0, some 8⟩) n c2) (t19 : tget T 19 = .slice (some ⟨e, 0, some 8⟩) n n) (t22 : tget T 22 = .slice (some ⟨x1, 0, some 8⟩) n c1) (t26 : tget T 26 = .int .i64 i)
    (hQ : ∀ T' A', Keep (fun z => z = e) A A' → A'.get e = some (.cells (bls (mixE n f a w (i * 8 + 8))) false) → (∀ i, (i < 27 ∨ (138 ≤ i ∧ i < 182)) → tget T' i = tget T i) → Q .normal ⟨T', D, A'⟩) : W AP KL g rd pp5 ⟨T, D, A⟩ Q := by
  have n1 := Hp.lt_of_get g1
  have n2 := Hp.lt_of_get g2
  have ne := Hp.lt_of_get ge
  obtain ⟨B, hB⟩ : ∃ B, B = A.push (.cells (ints (pairs16 a w i)) false) := ⟨_, rfl⟩
  have kB : Ext' A B := by rw [hB]; exact Ext'.push _ _
  have gB : B.get A.n = some (.cells (ints (pairs16 a w i)) false) := by rw [hB]; exact get_push_new
  have hB' : A.push (.cells [.int .i64 (gi a (i * 8)), .int .i64 (gi w (i * 8)), .int .i64 (gi a (i * 8 + 1)), .int .i64 (gi w (i * 8 + 1)), .int .i64 (gi a (i * 8 + 2)), .int .i64 (gi w (i * 8 + 2)), .int .i64 (gi a (i * 8 + 2 + 1)), .int .i64 (gi w (i * 8 + 2 + 1)), .int .i64 (gi a (i * 8 + 4)), .int .i64 (gi w (i * 8 + 4)), .int .i64 (gi a (i * 8 + 4 + 1)), .int .i64 (gi w (i * 8 + 4 + 1)), .int .i64 (gi a (i * 8 + 6)), .int .i64 (gi w (i * 8 + 6)), .int .i64 (gi a (i * 8 + 6 + 1)), .int .i64 (gi w (i * 8 + 6 + 1))] false) = B := hB.symm
  have hz8 : zeros 8 [.int .i64 0, .int .i64 0] = [.int .i64 0, .int .i64 0, .int .i64 0, .int .i64 0, .int .i64 0, .int .i64 0, .int .i64 0, .int .i64 0, .int .i64 0, .int .i64 0, .int .i64 0, .int .i64 0, .int .i64 0, .int .i64 0, .int .i64 0, .int .i64 0] := rfl
  have hk1 := kB.1
  simp (maxSteps := 2000000) (disch := first | omega | (as_aux_lemma => simp only [Hp.n_push, Hp.n_set, List.length_cons, List.length_nil, ints_length, List.length_append]) | (as_aux_lemma => simp [isCell]) | (simp only [Hp.n_push, Hp.n_set, List.length_cons, List.length_nil, ints_length, List.length_append]; omega)) [get_push_eq, get_push_old, set_push_old, partA_all, partA_cons, takeMarks, resA, resAll, resOne, Value.cells, pp5, t15, t22, t26, show (i : Int) < n by omega, idxSA_ok, g1, g2, ints_get, slitA, fillA, setRange, hz8]
  rw [hB']
  refine loop5p (n := n) (i := i) (e := e) (pb := A.n) (f := f) (a := a) (w := w) (A0 := B) (T0 := T) hn hi hg (by omega) gB (fun T2 A2 k2 ge2 hT2 => ?_) 8 0 _ B rfl (Keep.refl _ _) (kB.get ge) (fun j hj => ?_) t19 t26 ?_ ?_ ?_
  · simp (disch := as_aux_lemma => first | omega | simp only [hDs] <;> omega | simp [isCell]) [hRs, takeMarks, resA, resAll, resOne, Value.cells]
    exact hQ T2 A2 ((kB.keep _).trans k2) ge2 fun j hj => hT2 j (by omega)
  · simp only [tget_tset]
    repeat (rw [if_neg (by omega)])
  all_goals simp
set_option maxHeartbeats 2000000 in
theorem loop5c {P : Par} {o w : List Int} {b7 e : Nat} {ov wv dv' kv : Value} {f : Nat → Bool} {A0 : Hp} {T0 : List Value} (hP : POk P) (hol : o.length = P.l.length * 8) (hwl : w.length = P.l.length * 8) (hg : g ≤ e) (he : e < A0.n) (hH : ∀ A, Keep (fun z => z = e) A0 A → AnyH P o w b7 ov wv dv' kv A)
    (hd : ∀ c, c < P.l.length → dryB P.shi (flat2 P.l) w c = true → dryB P.shi (flat2 P.l) o c = true ∧ gi o (c * 8) = Never ∧ gi o (c * 8 + 5) ≤ P.ghi c)
    (hQ : ∀ T' A', Keep (fun z => z = e) A0 A' → A'.get e = some (.cells (bls (mixE P.l.length f o w (P.l.length * 8))) false) → (∀ i, (i < 22 ∨ (138 ≤ i ∧ i < 142)) → tget T' i = tget T0 i) → Q (.exit 4) ⟨T', D, A'⟩) :
    ∀ (k i : Nat) (T : List Value) (A : Hp), i + k = P.l.length → Keep (fun z => z = e) A0 A → A.get e = some (.cells (bls (mixE P.l.length f o w (i * 8))) false) → (∀ i, (i < 22 ∨ (138 ≤ i ∧ i < 142)) → tget T i = tget T0 i) →
      tget T0 7 = ptrV b7 → tget T0 15 = wv → tget T0 17 = dv' → tget T0 19 = .slice (some ⟨e, 0, some 8⟩) P.l.length P.l.length → tget T 22 = ov → tget T 24 = kv → tget T 179 = ov → tget T 180 = .int .i64 P.l.length → tget T 181 = .int .i64 i → W AP KL g rd (.loop body5c) ⟨T, D, A⟩ Q := by
  have hsm := hP.small
  intro k
  induction k with
  | zero =>
    intro i T A hi kA ge hT t7' t15' t17' t19' t22 t24 t179 t180 t181
    have : i = P.l.length := by omega
    rw [W_loop]
    simp (disch := as_aux_lemma => first | omega | simp only [hDs] <;> omega | simp [isCell]) [hRs, takeMarks, resA, resAll, resOne, Value.cells, body5c, t180, t181, show ¬ ((i : Int) < P.l.length) by omega]
    refine hQ _ A kA (by have ge' := ge; rw [this] at ge'; exact ge') fun x hx => ?_
    simp only [tget_tset]
    rw [if_neg (by omega)]
    exact hT x hx
  | succ k ih =>
    intro i T A hi kA ge hT t7' t15' t17' t19' t22 t24 t179 t180 t181
    have t7 := (hT 7 (by omega)).trans t7'
    have t15 := (hT 15 (by omega)).trans t15'
    have t17 := (hT 17 (by omega)).trans t17'
    have t19 := (hT 19 (by omega)).trans t19'
    have hil : i < P.l.length := by omega
    have HA := hH A kA
    obtain ⟨x1, c1, r1, v1, g1⟩ := HA.ro.at (i := i) hil
    obtain ⟨x2, c2, r2, v2, g2⟩ := HA.rw'.at (i := i) hil
    obtain ⟨x3, c3, r3, v3, g3⟩ := HA.rd.at (i := i) hil
    obtain ⟨x4, c4, r4, v4, g4⟩ := HA.rk.at (i := i) hil
    rcases (groundOf_cases HA.gr).2 with ⟨_, e2⟩ | ⟨x, cap, ro, hsv, hx⟩
    · rw [e2] at hil; simp at hil
    rw [cellsOf_flat] at hx
    have hfl := flat2_length P.l
    have n1 := Hp.lt_of_get g1
    have n2 := Hp.lt_of_get g2
    have ne := Hp.lt_of_get ge
    have kn := kA.1
    have g7 := HA.g7
    have eg : gi (flat2 P.l) (i * 2 + 1) = P.ghi i := rfl
    have d3 := dryL_at (hi := P.shi) (gs := flat2 P.l) (zs := w) hil
    have d4 := dryL_at (hi := P.shi) (gs := flat2 P.l) (zs := o) hil
    have w1 := wrId (n := (i : Int) + 1) (by omega) (by omega)
    have t22' := t22
    have t24' := t24
    have t179' := t179
    have q15 := t15
    have q17 := t17
    rw [v1] at t22' t179'
    rw [v2] at q15
    rw [v3] at q17
    rw [v4] at t24'
    have next : ∀ T1 : List Value, (∀ i, (i < 22 ∨ i = 22 ∨ i = 24 ∨ (138 ≤ i ∧ i < 142) ∨ (179 ≤ i ∧ i < 182)) → tget T1 i = tget T i) → tget T1 26 = .int .i64 i → ∀ R : Ex → St → Prop,
        (∀ T' A', (∀ T'', (∀ i, (i < 22 ∨ i = 22 ∨ i = 24 ∨ (138 ≤ i ∧ i < 142) ∨ (179 ≤ i ∧ i < 181)) → tget T'' i = tget T' i) → tget T'' 181 = .int .i64 ((i : Int) + 1) → W AP KL g rd (.loop body5c) ⟨T'', D, A'⟩ Q) → tget T' 181 = .int .i64 i → R .normal ⟨T', D, A'⟩) → W AP KL g rd pp5 ⟨T1, D, A⟩ R := by
      intro T1 h1 h26 R hR
      refine pp5_run (n := P.l.length) (i := i) (e := e) (f := f) (a := o) (w := w) (by omega) hil hg hol hwl ge g1 g2 ((h1 15 (by omega)).trans q15) ((h1 19 (by omega)).trans t19) ((h1 22 (by omega)).trans t22') h26 fun T2 A2 k2 ge2 hT2 => ?_
      refine hR T2 A2 (fun T'' hT'' h181 => ?_) ((hT2 181 (by omega)).trans ((h1 181 (by omega)).trans t181))
      have old : ∀ j, (j < 22 ∨ j = 22 ∨ j = 24 ∨ (138 ≤ j ∧ j < 142) ∨ (179 ≤ j ∧ j < 181)) → tget T'' j = tget T j := fun j hj => by rw [hT'' j hj, hT2 j (by omega), h1 j (by omega)]
      refine ih (i + 1) T'' A2 (by omega) (kA.trans k2) (by rw [show (i + 1) * 8 = i * 8 + 8 by omega]; exact ge2) (fun j hj => (old j (by omega)).trans (hT j hj)) t7' t15' t17' t19' ((old 22 (by omega)).trans t22) ((old 24 (by omega)).trans t24) ((old 179 (by omega)).trans t179) ((old 180 (by omega)).trans t180) (by rw [h181]; simp)
    rw [W_loop]
    cases hb : dryB P.shi (flat2 P.l) w i
    · rw [hb] at d3
      simp (disch := as_aux_lemma => first | omega | simp only [hDs] <;> omega | simp [isCell]) [hRs, takeMarks, resA, resAll, resOne, Value.cells, body5c, t180, t181, show (i : Int) < P.l.length by omega, q17, q15, t22', idxSA_ok, g3, d3, g1, g2, ints_get, slitA, fillA, setRange, GuardW_u]
      refine next _ (fun j hj => ?_) ?_ _ fun T' A' hgo h181 => ?_
      · simp only [tget_tset]
        repeat (rw [if_neg (by omega)])
      · simp
      · simp (disch := as_aux_lemma => first | omega | simp only [hDs] <;> omega | simp [isCell]) [hRs, takeMarks, resA, resAll, resOne, Value.cells, h181, w1]
        refine hgo _ (fun j hj => ?_) ?_
        · simp only [tget_tset]
          repeat (rw [if_neg (by omega)])
        · simp [w1]
    · rw [hb] at d3
      obtain ⟨q1, q2, q3⟩ := hd i hil hb
      rw [q1] at d4
      have q2' : ¬ gi o (i * 8) < 1099511627776 := by rw [q2]; decide
      simp (disch := as_aux_lemma => first | omega | simp only [hDs] <;> omega | simp [isCell]) [hRs, takeMarks, resA, resAll, resOne, Value.cells, body5c, t180, t181, show (i : Int) < P.l.length by omega, q17, q15, t22', t24', idxSA_ok, g3, d3, g4, d4, g1, g2, ints_get, q2', t7, ptrV, g7, hsv, hx, eg, show ¬ (P.ghi i < gi o (i * 8 + 5)) by omega, slitA, fillA, setRange, GuardW_u]
      refine next _ (fun j hj => ?_) ?_ _ fun T' A' hgo h181 => ?_
      · simp only [tget_tset]
        repeat (rw [if_neg (by omega)])
      · simp
      · simp (disch := as_aux_lemma => first | omega | simp only [hDs] <;> omega | simp [isCell]) [hRs, takeMarks, resA, resAll, resOne, Value.cells, h181, w1]
        refine hgo _ (fun j hj => ?_) ?_
        · simp only [tget_tset]
          repeat (rw [if_neg (by omega)])
        · simp [w1]
end
end Go.Ab.Wave
namespace Go.Ab.Wave
open Go Go.Ab
theorem oneE_s {P : Par} {S : Src} (hp : prepE P = 0) (he : S.err P.l.length = 0) : oneE P S = 0 := by unfold oneE; rw [if_pos hp]; exact he
theorem oneRes_s {P : Par} {S : Src} (hp : prepE P = 0) (he : S.err P.l.length = 0) : oneRes P S = srcB P S := by unfold oneRes; rw [if_pos (oneE_s hp he)]; rfl
theorem dryErr_ok {P : Par} (hP : POk P) : dryErr P.w P.h P.s P.l P.slo P.shi P.l.length = 0 := by
  unfold dryErr
  rw [if_pos hP.chk, if_pos (inS_iff.2 hP.sea), if_pos rfl]
theorem dryL_len {hi : Int} {gs zs : List Int} {n : Nat} : (dryL hi gs zs n).length = n := by simp [dryL]
structure AnyB (P : Par) (ss w : List Int) (m b7 b8 b9 : Nat) (sv wv dv' : Value) (A : Hp) : Prop where
  g7 : A.get b7 = some (.cells [.int .i64 P.w, .int .i64 P.h, .int .i64 P.s, P.sl] false)
  g8 : A.get b8 = some (.cells [.int .i64 P.slo, .int .i64 P.shi] false)
  g9 : A.get b9 = some (.cells [.int .i64 P.k0, .int .i64 P.k1, .int .i64 P.l0, .int .i64 P.l1, .int .i64 P.o0, .int .i64 P.o1] false)
  gr : groundOf A P.sl = some P.l
  rs : RdS A 5 m (ints ss) sv
  rw' : RdS A 8 P.l.length (ints w) wv
  rd : RdS A 1 P.l.length (dryL P.shi (flat2 P.l) w P.l.length) dv'
theorem AnyB.mono {P : Par} {ss w : List Int} {m b7 b8 b9 : Nat} {sv wv dv' : Value} {A A' : Hp} (h : AnyB P ss w m b7 b8 b9 sv wv dv' A) (k : ∀ x, x < A.n → A'.get x = A.get x) : AnyB P ss w m b7 b8 b9 sv wv dv' A' :=
  ⟨(k _ (Hp.lt_of_get h.g7)).trans h.g7, (k _ (Hp.lt_of_get h.g8)).trans h.g8, (k _ (Hp.lt_of_get h.g9)).trans h.g9, groundOf_mono h.gr k, h.rs.mono k, h.rw'.mono k, h.rd.mono k⟩
section
variable {g : Nat} {D : List Nat} {rd : Option Nat} {Q : Ex → St → Prop} {A : Hp} {V : Value → Hp → Prop}
set_option maxHeartbeats 2000000 in
theorem loop5b {P : Par} {ss : List Int} {m n' b7 b8 b9 e : Nat} {sv wv dv' : Value} {A00 A0 : Hp} {T0 : List Value} (hP : POk P) (hm : m < 1000000) (hmn : m = n' + 1) (hse : ∀ j, j < m → (srcAt ss j).err P.l.length = 0) (hg : g ≤ A00.n) (he : e = A00.n) (he0 : e < A0.n) (h00 : ∀ x, x < e → A0.get x = A00.get x)
    (hB : AnyB P ss (waveL P ss n') m b7 b8 b9 sv wv dv' A00) :
    ∀ (k i : Nat) (T : List Value) (A : Hp) (f : Nat → Bool), i + k = m → Keep (fun z => z = e) A0 A → A.get e = some (.cells (bls ((List.range (P.l.length * 8)).map f)) false) → (∀ s, s < i → SrcFin P (srcAt ss s)) → (∀ s, s < i → ∀ o, o < P.l.length * 8 → gi (srcB P (srcAt ss s)) o = gi (waveL P ss n') o → f o = true) → (∀ i, (i < 21 ∨ (138 ≤ i ∧ i < 141)) → tget T i = tget T0 i) →
      tget T0 7 = ptrV b7 → tget T0 8 = ptrV b8 → tget T0 9 = ptrV b9 → tget T0 15 = wv → tget T0 17 = dv' → tget T0 19 = .slice (some ⟨e, 0, some 8⟩) P.l.length P.l.length → tget T 139 = sv → tget T 140 = .int .i64 m → tget T 141 = .int .i64 i → (∀ T' A' (f : Nat → Bool), (∀ i, (i < 21 ∨ (138 ≤ i ∧ i < 141)) → tget T' i = tget T0 i) → Keep (fun z => z = e) A0 A' → A'.get e = some (.cells (bls ((List.range (P.l.length * 8)).map f)) false) → (∀ s, s < m → SrcFin P (srcAt ss s)) → (∀ s, s < m → ∀ o, o < P.l.length * 8 → gi (srcB P (srcAt ss s)) o = gi (waveL P ss n') o → f o = true) → Q (.exit 2) ⟨T', D, A'⟩) → W AP KL g rd (.loop body5b) ⟨T, D, A⟩ Q := by
  have hsm := hP.small
  have hpos : 0 < P.l.length := hP.pos
  have hzl : ss.length = m * 5 := by have := hB.rs.1; rwa [ints_length] at this
  have hpr := prep_of hP
  intro k
  induction k with
  | zero =>
    intro i T A f hi kA ge hF hf hT t7' t8' t9' t15' t17' t19' t139 t140 t141 hQ2
    have : i = m := by omega
    rw [W_loop]
    simp (disch := as_aux_lemma => first | omega | simp only [hDs] <;> omega | simp [isCell]) [hRs, takeMarks, resA, resAll, resOne, Value.cells, body5b, t140, t141, show ¬ ((i : Int) < m) by omega]
    refine hQ2 _ A f (fun j hj => ?_) kA ge (by rw [← this]; exact hF) (by rw [← this]; exact hf)
    simp only [tget_tset]
    rw [if_neg (by omega)]
    exact hT j hj
  | succ k ih =>
    intro i T A f hi kA ge hF hf hT t7' t8' t9' t15' t17' t19' t139 t140 t141 hQ2
    have t7 := (hT 7 (by omega)).trans t7'
    have t8 := (hT 8 (by omega)).trans t8'
    have t9 := (hT 9 (by omega)).trans t9'
    have t15 := (hT 15 (by omega)).trans t15'
    have kn := kA.1
    have toB : ∀ A', (∀ x, x < A.n → x ≠ e → A'.get x = A.get x) → AnyB P ss (waveL P ss n') m b7 b8 b9 sv wv dv' A' := fun A' h => hB.mono fun x hx => by rw [h x (by omega) (by omega), kA.2 x (by omega) (by omega), h00 x (by omega)]
    have HA := toB A fun _ _ _ => rfl
    obtain ⟨y, cy, ry, hyv, hy⟩ := HA.rs.at (i := i) (by omega)
    have ny := Hp.lt_of_get hy
    have n7 := Hp.lt_of_get HA.g7
    have n8 := Hp.lt_of_get HA.g8
    have n9 := Hp.lt_of_get HA.g9
    obtain ⟨S, hS⟩ : ∃ S, S = srcAt ss i := ⟨_, rfl⟩
    have f0 : gi ss (i * 5) = S.k := by rw [hS]; rfl
    have f1 : gi ss (i * 5 + 1) = S.c := by rw [hS]; rfl
    have f2 : gi ss (i * 5 + 2) = S.cl := by rw [hS]; rfl
    have f3 : gi ss (i * 5 + 3) = S.lo := by rw [hS]; rfl
    have f4 : gi ss (i * 5 + 4) = S.hi := by rw [hS]; rfl
    have hSe : S.err P.l.length = 0 := by rw [hS]; exact hse i (by omega)
    obtain ⟨B, hB1⟩ : ∃ B, B = A.push (.cells [.int .i64 S.k, .int .i64 S.c, .int .i64 S.cl, .int .i64 S.lo, .int .i64 S.hi] false) := ⟨_, rfl⟩
    have kB : Ext' A B := by rw [hB1]; exact Ext'.push _ _
    have gB : B.get A.n = some (.cells [.int .i64 S.k, .int .i64 S.c, .int .i64 S.cl, .int .i64 S.lo, .int .i64 S.hi] false) := by rw [hB1]; exact get_push_new
    have HB := toB B fun x hx _ => kB.2 x hx
    have nB := kB.1
    have w1 := wrId (n := (i : Int) + 1) (by omega) (by omega)
    have t139' := t139
    rw [hyv] at t139'
    rw [W_loop]
    simp (disch := as_aux_lemma => first | omega | simp only [hDs] <;> omega | simp [isCell]) [hRs, takeMarks, resA, resAll, resOne, Value.cells, body5b, t139', t140, t141, show (i : Int) < m by omega, idxSA_ok, hy, ints_5, f0, f1, f2, f3, f4, storeB_cells, setRange_all]
    rw [← hB1]
    simp (disch := as_aux_lemma => first | omega | simp only [hDs] <;> omega | simp [isCell]) [hRs, takeMarks, resA, resAll, resOne, Value.cells, t7, t8, t9, ptrV, HB.g7, HB.g8, HB.g9, gB]
    refine w16 (P := P) (S := S) hsm HB.gr (by omega) fun A1 ov k1 acc1 fin1 => ?_
    rw [oneRes_s hpr hSe] at acc1
    have hSF : SrcFin P S := fin1 (oneE_s hpr hSe)
    have hbl : (srcB P S).length = P.l.length * 8 := bounds_len
    have ro : RdS A1 8 P.l.length (ints (srcB P S)) ov := acc1.rd (by rw [ints_length]; exact hbl) (by decide)
    have k01 := kB.trans k1
    have H1 := toB A1 fun x hx _ => k01.2 x hx
    have n1 := k1.1
    simp (disch := as_aux_lemma => first | omega | simp only [hDs] <;> omega | simp [isCell]) [hRs, takeMarks, resA, resAll, resOne, Value.cells, oneE_s hpr hSe, t7, t8, ptrV, H1.g7, H1.g8]
    refine w21 (l := P.l) (n := P.l.length) (zs := srcB P S) (lv := ov) H1.gr ro (by omega) (by omega) fun kv A2 q1 q2 acc2 => ?_
    have de := dryErr_ok hP
    rw [show dryRes P.w P.h P.s P.l P.slo P.shi P.l.length (srcB P S) = dryL P.shi (flat2 P.l) (srcB P S) P.l.length from by unfold dryRes; rw [if_pos de]] at acc2
    have k12 : Ext' A1 A2 := ⟨q1, q2⟩
    have rk : RdS A2 1 P.l.length (dryL P.shi (flat2 P.l) (srcB P S) P.l.length) kv := acc2.rd (by rw [dryL_len, Nat.mul_one]) (by decide)
    have k02 := k01.trans k12
    have H2 := toB A2 fun x hx _ => k02.2 x hx
    have ro2 := ro.mono q2
    have hin := fun c hc r hr => one_in (P := P) (ss := ss) (n := n') (j := i) (by omega) (by rw [← hS]; exact hSF) (c := c) hc r hr
    rw [← hS] at hin
    simp (disch := as_aux_lemma => first | omega | simp only [hDs] <;> omega | simp [isCell]) [hRs, takeMarks, resA, resAll, resOne, Value.cells, de, t15, GuardW_u]
    refine w26 (a := srcB P S) (b := waveL P ss n') (by omega) ro2 H2.rw' hin fun A3 k3 => ?_
    have k03 := k02.trans k3
    have H3 := toB A3 fun x hx _ => k03.2 x hx
    have n3 := k03.1
    have rk3 := rk.mono k3.2
    have ro3 := ro2.mono k3.2
    simp (disch := as_aux_lemma => first | omega | simp only [hDs] <;> omega | simp [isCell]) [hRs, takeMarks, resA, resAll, resOne, Value.cells, rk3.len, H3.rw'.len, ro3.len, t15]
    have ge3 := k03.get ge
    have hd : ∀ c, c < P.l.length → dryB P.shi (flat2 P.l) (waveL P ss n') c = true → dryB P.shi (flat2 P.l) (srcB P S) c = true ∧ gi (srcB P S) (c * 8) = Never ∧ gi (srcB P S) (c * 8 + 5) ≤ P.ghi c := fun c hc h => by
      unfold dryB at h ⊢
      simp only [Bool.and_eq_true, decide_eq_true_eq] at h ⊢
      have h1 := (hin c hc 2 (by omega)).2.2
      have h2 : gi (srcB P S) (c * 8 + 3) ≤ gi (waveL P ss n') (c * 8 + 3) := h1
      have h3 := dry_row hSF hc (show P.shi ≤ P.glo c from h.1) (by omega)
      exact ⟨⟨h.1, by omega⟩, h3.1, by rw [h3.2]; exact Int.le_refl _⟩
    have hne : ∀ {k n : Nat} {cs : List Value} {v : Value}, True → True := fun _ => trivial
    have acc3 : AccS B.n A3 8 (ints (srcB P S)) ov := acc1.mono fun x hx => by rw [k3.2 x (by omega), q2 x hx]
    have acck : AccS A1.n A3 1 (dryL P.shi (flat2 P.l) (srcB P S) P.l.length) kv := acc2.mono k3.2
    have ne := Hp.lt_of_get ge
    refine loop5c (P := P) (o := srcB P S) (w := waveL P ss n') (b7 := b7) (e := e) (ov := ov) (wv := wv) (dv' := dv') (kv := kv) (f := f) (A0 := A3) (T0 := _) hP hbl (waveL_len _) (by omega) (by omega) (fun A4 k4 => ?_) hd (fun T5 A5 k5 ge5 hT5 => ?_) P.l.length 0 _ A3 (by omega) (Keep.refl _ _) (by rw [Nat.zero_mul, mixE_zero]; exact ge3) (fun _ _ => rfl) ?_ ?_ ?_ ?_ ?_ ?_ ?_ ?_ ?_
    · have H4 : AnyB P ss (waveL P ss n') m b7 b8 b9 sv wv dv' A4 := toB A4 fun x hx hne => by rw [k4.2 x (by omega) hne, k03.2 x hx]
      refine ⟨H4.g7, H4.gr, ?_, H4.rw', H4.rd, ?_⟩
      · have : AccS B.n A4 8 (ints (srcB P S)) ov := by
          rcases acc3 with h | ⟨z, q, h1, h2, h3, h4, h5⟩
          · exact .inl h
          · exact .inr ⟨z, q, h1, by rw [k4.2 z (Hp.lt_of_get h2) (by omega)]; exact h2, h3, h4, h5⟩
        exact this.rd (by rw [ints_length]; exact hbl) (by decide)
      · have : AccS A1.n A4 1 (dryL P.shi (flat2 P.l) (srcB P S) P.l.length) kv := by
          rcases acck with h | ⟨z, q, h1, h2, h3, h4, h5⟩
          · exact .inl h
          · exact .inr ⟨z, q, h1, by rw [k4.2 z (Hp.lt_of_get h2) (by omega)]; exact h2, h3, h4, h5⟩
        exact this.rd (by rw [dryL_len, Nat.mul_one]) (by decide)
    · have r141 := hT5 141 (by omega)
      simp [t141] at r141
      have old : ∀ j, (j < 21 ∨ (138 ≤ j ∧ j < 141)) → tget T5 j = tget T j := fun j hj => by
        rw [hT5 j (by omega)]
        simp only [tget_tset]
        repeat (rw [if_neg (by omega)])
      simp (disch := as_aux_lemma => first | omega | simp only [hDs] <;> omega | simp [isCell]) [hRs, takeMarks, resA, resAll, resOne, Value.cells, r141, w1]
      refine ih (i + 1) _ A5 (fun o => f o || decide (gi (srcB P S) o = gi (waveL P ss n') o)) (by omega) ((kA.trans (k03.keep _)).trans k5) (by rw [mixE_all] at ge5; exact ge5) (fun s hs => ?_) (fun s hs o ho h => ?_) (fun j hj => ?_) t7' t8' t9' t15' t17' t19' ?_ ?_ ?_ hQ2
      · by_cases es : s = i
        · rw [es, ← hS]; exact hSF
        · exact hF s (by omega)
      · by_cases es : s = i
        · subst es
          rw [← hS] at h
          show (f o || decide (gi (srcB P S) o = gi (waveL P ss n') o)) = true
          rw [decide_eq_true h, Bool.or_true]
        · show (f o || decide (gi (srcB P S) o = gi (waveL P ss n') o)) = true
          rw [hf s (by omega) o ho h, Bool.true_or]
      · simp only [tget_tset]
        repeat (rw [if_neg (by omega)])
        exact (old j hj).trans (hT j hj)
      · have := old 139 (by omega)
        simp [this, t139]
      · have := old 140 (by omega)
        simp [this, t140]
      · simp [w1]
    · simp [t7, ptrV]
    · simp [t15]
    · have := (hT 17 (by omega)).trans t17'
      simp [this]
    · have := (hT 19 (by omega)).trans t19'
      simp [this]
    all_goals simp
end
end Go.Ab.Wave
