/- WaveInside: a narrower ground. -/
import Derived.Test.YtmmpjfknmdlpoaaZ17
set_option linter.unusedSimpArgs false
set_option linter.unusedVariables false
set_option linter.unusedSectionVars false
namespace Go.Ab.Wave
open Go Go.Ab
section
variable {P N : Par} {zp zn : List Int} {n : Nat}
theorem Dom.spU (D : Dom P N) (hN : POk N) {a b : Nat} {u v : Int} (hb : b < P.l.length) (h : u ≤ v) (hs : (N.spU a b u).2 = true) : (P.spU a b v).2 = true ∧ (N.spU a b u).1 ≤ (P.spU a b v).1 := by
  obtain ⟨h1, h2, h3⟩ := spU_true hs
  have hl := D.lst b hb
  have hg := D.gr b hb
  have ho := D.loss
  have hgr := hN.ground (c := b) (by rw [← D.len]; exact hb)
  have hga : -1200000 ≤ agE N.up (N.glo b) (N.ghi b) := by unfold agE; split <;> omega
  have hlo := hN.lossE
  have hv : v ≠ -Never := by unfold Never; omega
  unfold Par.spU
  refine ⟨?_, by show u - _ ≤ v - _; omega⟩
  simp only [Bool.and_eq_true, decide_eq_true_eq, Bool.not_eq_true', decide_eq_false_iff_not]
  exact ⟨hv, by omega, by omega⟩
structure Both (P N : Par) (zp zn : List Int) (n : Nat) : Prop where
  D : Dom P N
  Z : DomZ P N zp zn n
  hP : POk P
  hN : POk N
  zP : StartOk P zp n
  zN : StartOk N zn n
  fP : SheetFin P zp n
  fN : SheetFin N zn n
variable (B : Both P N zp zn n)
include B
theorem Both.okP : SailOk P (arrF P zp n) (strF P zp n) := sailOk B.hP B.zP B.fP.arr B.fP.str
theorem Both.okN : SailOk N (arrF N zn n) (strF N zn n) := sailOk B.hN B.zN B.fN.arr B.fN.str
theorem Both.ar {c : Nat} (hc : c < P.l.length) : gi (arrF P zp n) c ≤ gi (arrF N zn n) c := B.D.arr B.Z B.hP B.zP B.fP B.fN hc
theorem Both.st {c : Nat} (hc : c < P.l.length) : gi (strF N zn n) c ≤ gi (strF P zp n) c := B.D.str B.Z B.hP B.hN B.zP B.zN B.fP B.fN hc
theorem Both.lenN {c : Nat} (hc : c < P.l.length) : c < N.l.length := by rw [← B.D.len]; exact hc
theorem Both.ri {c : Nat} (hc : c < P.l.length) (h : 1 ≤ N.dep c) : N.rise (strF N zn n) c ≤ P.rise (strF P zp n) c :=
  B.D.rise hc (B.hP.under hc (Int.le_trans h (B.D.dep c hc))) (B.hN.under (B.lenN hc) h) (B.okN.st c (B.lenN hc)).1 (B.st hc)
theorem Both.ri0 {c : Nat} (hc : c < P.l.length) (h : 1 ≤ N.dep c) : 0 ≤ N.rise (strF N zn n) c := (B.hN.rise (B.lenN hc) (B.hN.under (B.lenN hc) h) (B.okN.st c (B.lenN hc))).1
theorem Both.srf0 {c : Nat} (hc : c < P.l.length) : gi (srfK N (arrF N zn n) (strF N zn n) N.l.length) c ≤ gi (srfK P (arrF P zp n) (strF P zp n) P.l.length) c := by
  have hcN := B.lenN hc
  rw [srfK_get hc, srfK_get hcN]
  have ha := B.ar hc
  have hv := srf_ok B.hP B.okP hc
  by_cases h : gi (arrF N zn n) c < Never
  · rw [if_pos ⟨hcN, h⟩, if_pos ⟨hc, by omega⟩]
    have hd := ((B.okN.ar c hcN).2 h).2
    have := B.ri hc hd
    have := B.D.sea
    omega
  · rw [if_neg (fun x => h x.2)]
    rw [srfK_get hc] at hv
    rcases hv with e | e
    · rw [e]; exact Int.le_refl _
    · have : Never = 1099511627776 := rfl
      omega
theorem Both.srf {c : Nat} (hc : c < P.l.length) : gi (fSu N zn n) c ≤ gi (fSu P zp n) c := by
  have h := Stl.dom (S := PU P) (T := PU N) B.fP.srf B.D.len.symm (fun a _ b hb => by show b ∈ nbP P a; rw [← B.D.nb]; exact hb) (fun a b hb => nb_lt B.hP hb) (fun b hb => by
      have := B.srf0 (c := b) hb
      show -gi (srfK P (arrF P zp n) (strF P zp n) P.l.length) b ≤ -gi (srfK N (arrF N zn n) (strF N zn n) N.l.length) b
      omega) (fun a b u ha hb hk hs => by
      have hb' : b < P.l.length := nb_lt B.hP hb
      have hk' : -gi (fSu P zp n) a ≤ -u := hk
      have := B.D.spU (a := a) B.hN hb' (show u ≤ gi (fSu P zp n) a by omega) hs
      left
      refine ⟨this.1, ?_⟩
      show -(P.spU a b (gi (fSu P zp n) a)).1 ≤ -(N.spU a b u).1
      omega) (B.fN.srf.mid.der c (B.lenN hc))
  have h' : -gi (fSu P zp n) c ≤ -gi (fSu N zn n) c := h
  omega
theorem Both.der {c : Nat} {u : Int} (h : (PU N).Der (srfK N (arrF N zn n) (strF N zn n) N.l.length) c u) : u ≤ gi (fSu P zp n) c := by
  have h := Stl.dom (S := PU P) (T := PU N) B.fP.srf B.D.len.symm (fun a _ b hb => by show b ∈ nbP P a; rw [← B.D.nb]; exact hb) (fun a b hb => nb_lt B.hP hb) (fun b hb => by
      have := B.srf0 (c := b) hb
      show -gi (srfK P (arrF P zp n) (strF P zp n) P.l.length) b ≤ -gi (srfK N (arrF N zn n) (strF N zn n) N.l.length) b
      omega) (fun a b u ha hb hk hs => by
      have hb' : b < P.l.length := nb_lt B.hP hb
      have hk' : -gi (fSu P zp n) a ≤ -u := hk
      have := B.D.spU (a := a) B.hN hb' (show u ≤ gi (fSu P zp n) a by omega) hs
      left
      refine ⟨this.1, ?_⟩
      show -(P.spU a b (gi (fSu P zp n) a)).1 ≤ -(N.spU a b u).1
      omega) h
  have h' : -gi (fSu P zp n) c ≤ -u := h
  omega
theorem Both.step {a c : Nat} {u : Int} (ha : a < P.l.length) (hc : c ∈ nbP P a) (hd : (PU N).Der (srfK N (arrF N zn n) (strF N zn n) N.l.length) a u) (hs : (N.spU a c u).2 = true) :
    (N.spU a c u).1 ≤ gi (fLa P zp n) c ∧ (P.spU a c (gi (fSu P zp n) a)).2 = true := by
  have hc' : c < P.l.length := nb_lt B.hP hc
  obtain ⟨h1, h2⟩ := B.D.spU (a := a) B.hN hc' (B.der hd) hs
  have h3 := (B.fP.srf.cl a c ha hc h1).2 rfl
  have h3' : (P.spU a c (gi (fSu P zp n) a)).1 ≤ gi (fLa P zp n) c := h3
  exact ⟨by omega, h1⟩
theorem Both.lnd {c : Nat} (hc : c < P.l.length) (h : gi (fLa N zn n) c ≠ -Never) : gi (fLa N zn n) c ≤ gi (fLa P zp n) c ∧ gi (fLa N zn n) c > agE N.up (N.glo c) (N.ghi c) ∧ N.lst c ≤ 0 := by
  rcases B.fN.srf.mid.land c (B.lenN hc) with e | ⟨a, u, ha, hd, hb, hs, e⟩
  · have e' : gi (fLa N zn n) c = gi (List.replicate N.l.length (-Never)) c := e
    rw [gi_replicate (B.lenN hc)] at e'
    exact absurd e' h
  · have e' : gi (fLa N zn n) c = (N.spU a c u).1 := e
    have ha' : a < P.l.length := by rw [B.D.len]; exact ha
    have hb' : c ∈ nbP P a := by rw [← B.D.nb]; exact hb
    obtain ⟨h1, h2, h3⟩ := spU_true (show (N.spU a c u).2 = true from hs)
    have h4 : (N.spU a c u).1 = u - agE N.up N.o0 N.o1 := rfl
    exact ⟨by rw [e']; exact (B.step ha' hb' hd hs).1, by omega, h2⟩
theorem Both.srfL {c : Nat} (hc : c < P.l.length) (hd : N.dep c < 1) (h : gi (fSu N zn n) c ≠ -Never) : gi (fSu N zn n) c ≤ gi (fLa P zp n) c ∧ gi (fSu N zn n) c > agE N.up (N.glo c) (N.ghi c) ∧ N.lst c ≤ 0 := by
  have hder := B.fN.srf.mid.der c (B.lenN hc)
  obtain ⟨v, hv⟩ : ∃ v, v = gi (fSu N zn n) c := ⟨_, rfl⟩
  have hder' : (PU N).Der (srfK N (arrF N zn n) (strF N zn n) N.l.length) c (gi (fSu N zn n) c) := hder
  rw [← hv] at hder' h ⊢
  cases hder' with
  | init hb =>
    rw [srfK_get (B.lenN hc)] at h
    by_cases h1 : gi (arrF N zn n) c < Never
    · have := ((B.okN.ar c (B.lenN hc)).2 h1).2
      omega
    · rw [if_neg (fun x => h1 x.2)] at h
      exact absurd rfl h
  | @step a b u ha hd' hb hs =>
    have ha' : a < P.l.length := by rw [B.D.len]; exact ha
    have hb' : c ∈ nbP P a := by rw [← B.D.nb]; exact hb
    obtain ⟨h1, h2, h3⟩ := spU_true (show (N.spU a c u).2 = true from hs)
    exact ⟨(B.step ha' hb' hd' hs).1, h3, h2⟩
theorem Both.arL {c : Nat} (hc : c < P.l.length) : gi (fAr P zp n) c ≤ gi (fAr N zn n) c := by
  refine Stl.dom (S := PL P (fSu P zp n)) (T := PL N (fSu N zn n)) B.fP.lnd B.D.len.symm (fun a _ b hb => ?_) (fun a b hb => nb_lt B.hP hb) (fun b hb => B.ar hb) (fun a b u ha hb hk hs => ?_) (B.fN.lnd.mid.der c (B.lenN hc))
  · show b ∈ nbP P a
    rw [← B.D.nb]; exact hb
  · have hb' : b < P.l.length := nb_lt B.hP hb
    have h1 := B.D.spU (a := a) B.hN hb' (B.srf ha) (show (N.spU a b (gi (fSu N zn n) a)).2 = true from hs)
    left
    refine ⟨h1.1, ?_⟩
    have hk' : gi (fAr P zp n) a ≤ u := hk
    show gi (fAr P zp n) a + agE P.up P.l0 P.l1 * P.s ≤ u + agE N.up N.l0 N.l1 * N.s
    rw [← B.D.s]
    obtain ⟨_, _, hs, _⟩ := check_parts B.hP.chk
    have := Int.mul_le_mul_of_nonneg_right B.D.land (show 0 ≤ P.s by omega)
    omega
end
end Go.Ab.Wave
namespace Go.Ab.Wave
open Go Go.Ab
noncomputable def E1 (P : Par) (zs : List Int) (n : Nat) : Spr := ⟨P, zs, n, 0, 0, 0, 0, 0, 0, 0, 0, 0, 0, 0, 0, 0⟩
theorem flat_get {f : Nat → List Int} (hf : ∀ i, (f i).length = 8) : ∀ {n c r : Nat}, c < n → r < 8 → gi ((List.range n).flatMap f) (c * 8 + r) = gi (f c) r := by
  intro n
  induction n with
  | zero => intro c r h; omega
  | succ n ih =>
    intro c r hc hr
    rw [List.range_succ, List.flatMap_append, List.flatMap_singleton]
    have hl : ((List.range n).flatMap f).length = n * 8 := by
      clear ih hc
      induction n with
      | zero => rfl
      | succ n ih => rw [List.range_succ, List.flatMap_append, List.flatMap_singleton, List.length_append, ih, hf]; omega
    by_cases h : c < n
    · rw [← ih h hr]
      unfold gi
      simp only [List.getD_eq_getElem?_getD]
      rw [List.getElem?_append_left (by omega)]
    · have : c = n := by omega
      subst this
      unfold gi
      simp only [List.getD_eq_getElem?_getD]
      rw [List.getElem?_append_right (by omega), hl]
      simp
theorem bounds_get {P : Par} {zs : List Int} {n c r : Nat} (hc : c < P.l.length) (hr : r < 8) : gi (bounds P zs n) (c * 8 + r) = gi ((E1 P zs n).row c) r := flat_get (f := (E1 P zs n).row) (fun _ => rfl) hc hr
structure In (W N : Par) (zw zn : List Int) (n : Nat) : Prop where
  u : Both (W.at true) (N.at true) zw zn n
  l : Both (N.at false) (W.at false) zn zw n
  m : Both (N.at true) (N.at false) zn zn n
section
variable {W N : Par} {zw zn : List Int} {n c : Nat} (I : In W N zw zn n) (hc : c < W.l.length)
include I hc
theorem In.hcN : c < N.l.length := by have := I.u.D.len; have e : W.l.length = N.l.length := this; omega
structure InAt (W N : Par) (zw zn : List Int) (n c : Nat) : Prop where
  g1 : W.glo c ≤ N.glo c
  g2 : N.glo c ≤ N.ghi c
  g3 : N.ghi c ≤ W.ghi c
  g4 : -1200000 ≤ W.glo c ∧ W.ghi c ≤ 1200000
  s1 : W.slo ≤ N.slo
  s2 : N.slo ≤ N.shi
  s3 : N.shi ≤ W.shi
  s4 : -20000 ≤ W.slo ∧ W.shi ≤ 20000
  a1 : gi (fAr (W.at true) zw n) c ≤ gi (fAr (N.at true) zn n) c
  a2 : gi (fAr (N.at true) zn n) c ≤ gi (fAr (N.at false) zn n) c
  a3 : gi (fAr (N.at false) zn n) c ≤ gi (fAr (W.at false) zw n) c
  r1 : 1 ≤ W.slo - W.ghi c → (E1 W zw n).riL c ≤ (E1 N zn n).riL c
  r2 : 1 ≤ N.slo - N.ghi c → (E1 N zn n).riL c ≤ (E1 N zn n).riH c
  r3 : 1 ≤ N.shi - N.glo c → (E1 N zn n).riH c ≤ (E1 W zw n).riH c
  r0 : (1 ≤ W.slo - W.ghi c → 0 ≤ (E1 W zw n).riL c) ∧ (1 ≤ N.slo - N.ghi c → 0 ≤ (E1 N zn n).riL c) ∧ (1 ≤ N.shi - N.glo c → 0 ≤ (E1 N zn n).riH c)
  u1 : (E1 W zw n).suL c ≤ (E1 N zn n).suL c
  u2 : W.slo - W.ghi c < 1 → (E1 W zw n).suL c ≠ -Never → W.ghi c < (E1 W zw n).suL c ∧ W.shi - W.glo c ≤ 0 ∧ (E1 N zn n).suL c ≠ -Never
  u3 : N.slo - N.ghi c < 1 → (E1 N zn n).suL c ≠ -Never → (E1 N zn n).suL c ≤ (E1 N zn n).laH c ∧ N.ghi c < (E1 N zn n).suL c ∧ N.shi - N.glo c ≤ 0 ∧ (E1 N zn n).laH c ≠ -Never
  l1 : (E1 N zn n).laH c ≠ -Never → (E1 N zn n).laH c ≤ (E1 W zw n).laH c ∧ N.glo c < (E1 N zn n).laH c ∧ N.slo - N.ghi c ≤ 0 ∧ (E1 W zw n).laH c ≠ -Never
  l2 : (E1 W zw n).laH c ≠ -Never → W.glo c < (E1 W zw n).laH c ∧ W.slo - W.ghi c ≤ 0
  rw0 : 1 ≤ W.shi - W.glo c → 0 ≤ (E1 W zw n).riH c
theorem In.at (hW : Both (W.at true) (W.at true) zw zw n) : InAt W N zw zn n c := by
  have hcN := I.hcN hc
  have gW := I.u.hP.ground hc
  have gN := I.u.hN.ground hcN
  have sW := I.u.hP.sea
  have sN := I.u.hN.sea
  have gu := I.u.D.gr c hc
  have gl := I.l.D.gr c hcN
  have su := I.u.D.sea
  have sl := I.l.D.sea
  have nN : Never = 1099511627776 := rfl
  have lw := fun h => I.l.srfL (c := c) hcN h
  have lm := fun h => I.m.srfL (c := c) hcN h
  have uu := fun h => I.u.lnd (c := c) hc h
  have uw := fun h => hW.lnd (c := c) hc h
  refine ⟨gu, gN.2.1, gl, ⟨gW.1, gW.2.2⟩, sl, sN.2.1, su, ⟨sW.1, sW.2.2⟩, I.u.arL hc, I.m.arL hcN, I.l.arL hcN, fun h => I.l.ri hcN h, fun h => I.m.ri hcN h, fun h => I.u.ri hc h,
    ⟨fun h => I.l.ri0 hcN h, fun h => I.m.ri0 hcN h, fun h => I.u.ri0 hc h⟩, I.l.srf hcN, fun h1 h2 => ?_, fun h1 h2 => ?_, fun h => ?_, fun h => ?_, fun h => hW.ri0 hc h⟩
  · obtain ⟨_, q1, q2⟩ := lw h1 h2
    have q1' : W.ghi c < (E1 W zw n).suL c := q1
    have q2' : W.shi - W.glo c ≤ 0 := q2
    have q3 : (E1 W zw n).suL c ≤ (E1 N zn n).suL c := I.l.srf hcN
    have gW1 : -1200000 ≤ W.glo c := gW.1
    have gW2 : W.glo c ≤ W.ghi c := gW.2.1
    exact ⟨q1', q2', by omega⟩
  · obtain ⟨q0, q1, q2⟩ := lm h1 h2
    have q0' : (E1 N zn n).suL c ≤ (E1 N zn n).laH c := q0
    have q1' : N.ghi c < (E1 N zn n).suL c := q1
    have gW1 : -1200000 ≤ N.glo c := gN.1
    have gW2 : N.glo c ≤ N.ghi c := gN.2.1
    exact ⟨q0', q1', q2, by omega⟩
  · obtain ⟨q0, q1, q2⟩ := uu h
    have q0' : (E1 N zn n).laH c ≤ (E1 W zw n).laH c := q0
    have q1' : N.glo c < (E1 N zn n).laH c := q1
    have gW1 : -1200000 ≤ N.glo c := gN.1
    exact ⟨q0', q1', q2, by omega⟩
  · obtain ⟨_, q1, q2⟩ := uw h
    exact ⟨q1, q2⟩
end
theorem root981 {x y : Int} (h0 : 0 ≤ x) (h : x ≤ y) : rootI (981 * x) ≤ rootI (981 * y) ∧ rootI (981 * x) ≤ rootUpI (981 * y) ∧ rootUpI (981 * x) ≤ rootUpI (981 * y) ∧ 0 ≤ rootI (981 * x) :=
  ⟨rt_le_le (b := false) (b' := false) (fun h => h) (by omega) (by omega), rt_le_le (b := false) (b' := true) (fun _ => rfl) (by omega) (by omega), rt_le_le (b := true) (b' := true) (fun h => h) (by omega) (by omega), rt_nn (b := false) (by omega)⟩
theorem sq_mono {x y : Int} (h0 : 0 ≤ x) (h : x ≤ y) : 0 ≤ x * x * 981 ∧ x * x * 981 ≤ y * y * 981 := by
  have h1 := Int.mul_nonneg h0 h0
  have h2 := Int.mul_le_mul h h h0 (by omega)
  omega
theorem flowS {x y a b : Int} (h0 : 0 ≤ x) (h : x ≤ y) (hb : 0 < b) (hab : b ≤ a) :
    rootI ((x * x * 981).tdiv a) ≤ rootI ((y * y * 981).tdiv b) ∧ rootI ((x * x * 981).tdiv a) ≤ rootUpI (upI (y * y * 981) b) ∧ rootUpI (upI (x * x * 981) a) ≤ rootUpI (upI (y * y * 981) b) ∧ 0 ≤ rootI ((x * x * 981).tdiv a) ∧ 0 ≤ rootUpI (upI (x * x * 981) a) := by
  obtain ⟨h1, h2⟩ := sq_mono h0 h
  have n1 : 0 ≤ dv false (x * x * 981) a := dv_nn h1 (by omega)
  have n2 : 0 ≤ dv true (x * x * 981) a := dv_nn h1 (by omega)
  exact ⟨rt_le_le (b := false) (b' := false) (fun h => h) n1 (dv_le_le (b := false) (b' := false) (fun h => h) h1 h2 hb hab), rt_le_le (b := false) (b' := true) (fun _ => rfl) n1 (dv_le_le (b := false) (b' := true) (fun _ => rfl) h1 h2 hb hab),
    rt_le_le (b := true) (b' := true) (fun h => h) n2 (dv_le_le (b := true) (b' := true) (fun h => h) h1 h2 hb hab), rt_nn (b := false) n1, rt_nn (b := true) n2⟩
section
variable {W N : Par} {zw zn : List Int} {n c : Nat}
def within2 (a b : List Int) (o : Nat) : Prop := gi b o ≤ gi a o ∧ gi a o ≤ gi a (o + 1) ∧ gi a (o + 1) ≤ gi b (o + 1)
theorem InAt.rise (h : InAt W N zw zn n c) : (E1 W zw n).r2 c ≤ (E1 N zn n).r2 c ∧ (E1 N zn n).r2 c ≤ (E1 N zn n).l3 c ∧ (E1 N zn n).l3 c ≤ (E1 W zw n).l3 c ∧ 0 ≤ (E1 N zn n).h3 c := by
  obtain ⟨g1, g2, g3, g4, s1, s2, s3, s4, _, _, _, r1, r2, r3, r0, u1, u2, u3, l1, l2, rw0⟩ := h
  have e1 : ((E1 W zw n).P.at false).dep c = W.slo - W.ghi c := rfl
  have e2 : ((E1 N zn n).P.at false).dep c = N.slo - N.ghi c := rfl
  have e3 : ((E1 W zw n).P.at true).dep c = W.shi - W.glo c := rfl
  have e4 : ((E1 N zn n).P.at true).dep c = N.shi - N.glo c := rfl
  have p1 : (E1 W zw n).P.ghi c = W.ghi c := rfl
  have p2 : (E1 N zn n).P.ghi c = N.ghi c := rfl
  have p3 : (E1 W zw n).P.glo c = W.glo c := rfl
  have p4 : (E1 N zn n).P.glo c = N.glo c := rfl
  have nN : Never = 1099511627776 := rfl
  unfold Spr.l3 Spr.h3 Spr.r2
  simp only [e1, e2, e3, e4, p1, p2, p3, p4]
  have hh : (if 1 ≤ N.shi - N.glo c then (E1 N zn n).riH c else 0) ≤ if 1 ≤ W.shi - W.glo c then (E1 W zw n).riH c else 0 := by
    by_cases q1 : 1 ≤ N.shi - N.glo c
    · rw [if_pos q1, if_pos (by omega)]; exact r3 q1
    · rw [if_neg q1]
      split
      · exact rw0 (by omega)
      · exact Int.le_refl _
  refine ⟨?_, ?_, ?_, ?_⟩
  · split <;> split <;> (try split) <;> (try split) <;> omega
  · by_cases q1 : 1 ≤ N.slo - N.ghi c
    · rw [if_pos q1, if_pos (show 1 ≤ N.shi - N.glo c by omega)]
      have := r2 q1
      split <;> omega
    · rw [if_neg q1]
      by_cases q2 : (E1 N zn n).suL c ≠ -Never
      · have := u3 (by omega) q2
        rw [if_pos q2, if_pos this.2.2.2]
        omega
      · rw [if_neg q2]
        have : (0 : Int) ≤ if 1 ≤ N.shi - N.glo c then (E1 N zn n).riH c else 0 := by split <;> omega
        split <;> omega
  · by_cases q1 : (E1 N zn n).laH c ≠ -Never
    · have := l1 q1
      rw [if_pos q1, if_pos this.2.2.2]
      omega
    · rw [if_neg q1]
      split <;> omega
  · split <;> omega
theorem InAt.top (h : InAt W N zw zn n c) : (E1 W zw n).r4 c ≤ (E1 N zn n).r4 c ∧ (E1 N zn n).r4 c ≤ (E1 N zn n).l5 c ∧ (E1 N zn n).l5 c ≤ (E1 W zw n).l5 c := by
  obtain ⟨g1, g2, g3, g4, s1, s2, s3, s4, _, _, _, r1, r2, r3, r0, u1, u2, u3, l1, l2, rw0⟩ := h
  have e1 : ((E1 W zw n).P.at false).dep c = W.slo - W.ghi c := rfl
  have e2 : ((E1 N zn n).P.at false).dep c = N.slo - N.ghi c := rfl
  have e3 : ((E1 W zw n).P.at true).dep c = W.shi - W.glo c := rfl
  have e4 : ((E1 N zn n).P.at true).dep c = N.shi - N.glo c := rfl
  have p1 : (E1 W zw n).P.ghi c = W.ghi c := rfl
  have p2 : (E1 N zn n).P.ghi c = N.ghi c := rfl
  have p3 : (E1 W zw n).P.glo c = W.glo c := rfl
  have p4 : (E1 N zn n).P.glo c = N.glo c := rfl
  have p5 : (E1 W zw n).P.slo = W.slo := rfl
  have p6 : (E1 N zn n).P.slo = N.slo := rfl
  have p7 : (E1 W zw n).P.shi = W.shi := rfl
  have p8 : (E1 N zn n).P.shi = N.shi := rfl
  have nN : Never = 1099511627776 := rfl
  unfold Spr.l5 Spr.h5 Spr.r5 Spr.r4
  simp only [e1, e2, e3, e4, p1, p2, p3, p4, p5, p6, p7, p8]
  refine ⟨?_, ?_, ?_⟩
  · split <;> split <;> (try split) <;> (try split) <;> omega
  · have hh : (if 1 ≤ N.slo - N.ghi c then (-1200000 : Int) else N.ghi c) ≤ if 1 ≤ N.shi - N.glo c then max (if 1 ≤ N.slo - N.ghi c then (-1200000 : Int) else N.ghi c) (N.shi + (E1 N zn n).riH c) else (if 1 ≤ N.slo - N.ghi c then (-1200000 : Int) else N.ghi c) := by split <;> omega
    by_cases q1 : 1 ≤ N.slo - N.ghi c
    · rw [if_pos q1, if_pos q1, if_pos (show 1 ≤ N.shi - N.glo c by omega)]
      have := r2 q1
      split <;> omega
    · rw [if_neg q1] at hh
      rw [if_neg q1, if_neg q1]
      by_cases q2 : (E1 N zn n).suL c ≠ -Never
      · have := u3 (by omega) q2
        rw [if_pos q2, if_pos this.2.2.2]
        omega
      · rw [if_neg q2]
        split <;> omega
  · have hr : (if 1 ≤ N.slo - N.ghi c then (-1200000 : Int) else N.ghi c) ≤ (if 1 ≤ W.slo - W.ghi c then (-1200000 : Int) else W.ghi c) := by split <;> split <;> omega
    obtain ⟨xN, hxN⟩ : ∃ x, x = (if 1 ≤ N.slo - N.ghi c then (-1200000 : Int) else N.ghi c) := ⟨_, rfl⟩
    obtain ⟨xW, hxW⟩ : ∃ x, x = (if 1 ≤ W.slo - W.ghi c then (-1200000 : Int) else W.ghi c) := ⟨_, rfl⟩
    rw [← hxN, ← hxW] at hr ⊢
    have hh : (if 1 ≤ N.shi - N.glo c then max xN (N.shi + (E1 N zn n).riH c) else xN) ≤ if 1 ≤ W.shi - W.glo c then max xW (W.shi + (E1 W zw n).riH c) else xW := by
      by_cases q1 : 1 ≤ N.shi - N.glo c
      · have := r3 q1
        rw [if_pos q1, if_pos (by omega)]; omega
      · rw [if_neg q1]
        split <;> omega
    by_cases q1 : (E1 N zn n).laH c ≠ -Never
    · have := l1 q1
      rw [if_pos q1, if_pos this.2.2.2]
      omega
    · rw [if_neg q1]
      split <;> omega
theorem InAt.flow (h : InAt W N zw zn n c) : (E1 W zw n).r6 c ≤ (E1 N zn n).r6 c ∧ (E1 N zn n).r6 c ≤ (E1 N zn n).l7 c ∧ (E1 N zn n).l7 c ≤ (E1 W zw n).l7 c := by
  obtain ⟨g1, g2, g3, g4, s1, s2, s3, s4, _, _, _, r1, r2, r3, r0, u1, u2, u3, l1, l2, rw0⟩ := h
  have e1 : ((E1 W zw n).P.at false).dep c = W.slo - W.ghi c := rfl
  have e2 : ((E1 N zn n).P.at false).dep c = N.slo - N.ghi c := rfl
  have e3 : ((E1 W zw n).P.at true).dep c = W.shi - W.glo c := rfl
  have e4 : ((E1 N zn n).P.at true).dep c = N.shi - N.glo c := rfl
  have f1 : ((E1 W zw n).P.at false).lst c = W.shi - W.glo c := rfl
  have f2 : ((E1 N zn n).P.at false).lst c = N.shi - N.glo c := rfl
  have f3 : ((E1 W zw n).P.at true).lst c = W.slo - W.ghi c := rfl
  have f4 : ((E1 N zn n).P.at true).lst c = N.slo - N.ghi c := rfl
  have p1 : (E1 W zw n).P.ghi c = W.ghi c := rfl
  have p2 : (E1 N zn n).P.ghi c = N.ghi c := rfl
  have p3 : (E1 W zw n).P.glo c = W.glo c := rfl
  have p4 : (E1 N zn n).P.glo c = N.glo c := rfl
  have nN : Never = 1099511627776 := rfl
  have fa : 1 ≤ W.slo - W.ghi c → _ := fun h => flowS (x := (E1 W zw n).riL c) (y := (E1 N zn n).riL c) (a := W.shi - W.glo c) (b := N.shi - N.glo c) (r0.1 h) (r1 h) (by omega) (by omega)
  have fb : 1 ≤ N.slo - N.ghi c → _ := fun h => flowS (x := (E1 N zn n).riL c) (y := (E1 N zn n).riH c) (a := N.shi - N.glo c) (b := max 1 (N.slo - N.ghi c)) (r0.2.1 h) (r2 h) (by omega) (by omega)
  have fc : 1 ≤ N.shi - N.glo c → _ := fun h => flowS (x := (E1 N zn n).riH c) (y := (E1 W zw n).riH c) (a := max 1 (N.slo - N.ghi c)) (b := max 1 (W.slo - W.ghi c)) (r0.2.2 h) (r3 h) (by omega) (by omega)
  have ra : W.slo - W.ghi c < 1 → (E1 W zw n).suL c ≠ -Never → _ := fun h h2 => root981 (x := (E1 W zw n).suL c - W.ghi c) (y := (E1 N zn n).suL c - N.ghi c) (by have := u2 h h2; omega) (by omega)
  have rb : N.slo - N.ghi c < 1 → (E1 N zn n).suL c ≠ -Never → _ := fun h h2 => root981 (x := (E1 N zn n).suL c - N.ghi c) (y := (E1 N zn n).laH c - N.glo c) (by have := u3 h h2; omega) (by have := u3 h h2; omega)
  have rc : (E1 N zn n).laH c ≠ -Never → _ := fun h => root981 (x := (E1 N zn n).laH c - N.glo c) (y := (E1 W zw n).laH c - W.glo c) (by have := l1 h; omega) (by have := l1 h; omega)
  unfold Spr.l7 Spr.h7 Spr.r6
  simp only [e1, e2, e3, e4, f1, f2, f3, f4, p1, p2, p3, p4]
  refine ⟨?_, ?_, ?_⟩
  · split
    · rename_i h1
      rw [if_pos (by omega)]
      exact (fa h1).1
    · rename_i h1
      by_cases h2 : (E1 W zw n).suL c ≠ -Never
      · rw [if_pos h2]
        have q := u2 (by omega) h2
        rw [if_neg (by omega), if_pos q.2.2]
        exact (ra (by omega) h2).1
      · rw [if_neg h2]
        split
        · rename_i h3; exact (fb h3).2.2.2.1
        · rename_i h3
          split
          · rename_i h4; exact (rb (by omega) h4).2.2.2
          · exact Int.le_refl _
  · have fl : (0 : Int) ≤ if 1 ≤ N.shi - N.glo c then rootUpI (upI ((E1 N zn n).riH c * (E1 N zn n).riH c * 981) (max 1 (N.slo - N.ghi c))) else 0 := by
      split
      · rename_i h3; exact (fc h3).2.2.2.2
      · exact Int.le_refl _
    by_cases h1 : 1 ≤ N.slo - N.ghi c
    · rw [if_pos h1]
      have := (fb h1).2.1
      rw [if_pos (show 1 ≤ N.shi - N.glo c by omega)]
      split <;> omega
    · rw [if_neg h1]
      by_cases h2 : (E1 N zn n).suL c ≠ -Never
      · rw [if_pos h2]
        have q := u3 (by omega) h2
        rw [if_pos q.2.2.2]
        have := (rb (by omega) h2).2.1
        omega
      · rw [if_neg h2]
        split <;> omega
  · have fl : (if 1 ≤ N.shi - N.glo c then rootUpI (upI ((E1 N zn n).riH c * (E1 N zn n).riH c * 981) (max 1 (N.slo - N.ghi c))) else 0) ≤ if 1 ≤ W.shi - W.glo c then rootUpI (upI ((E1 W zw n).riH c * (E1 W zw n).riH c * 981) (max 1 (W.slo - W.ghi c))) else 0 := by
      by_cases h3 : 1 ≤ N.shi - N.glo c
      · rw [if_pos h3, if_pos (by omega)]
        exact (fc h3).2.2.1
      · rw [if_neg h3]
        split
        · rename_i h4
          unfold rootUpI
          split
          · exact Int.le_refl _
          · unfold rootI; omega
        · exact Int.le_refl _
    by_cases h2 : (E1 N zn n).laH c ≠ -Never
    · have q := l1 h2
      rw [if_pos h2, if_pos q.2.2.2]
      have := (rc h2).2.2.1
      omega
    · rw [if_neg h2]
      split <;> omega
theorem InAt.row (h : InAt W N zw zn n c) (r : Nat) (hr : r = 0 ∨ r = 2 ∨ r = 4 ∨ r = 6) : within2 ((E1 N zn n).row c) ((E1 W zw n).row c) r := by
  have h1 := h.rise
  have h2 := h.top
  have h3 := h.flow
  rcases hr with rfl | rfl | rfl | rfl
  · exact ⟨h.a1, h.a2, h.a3⟩
  · exact ⟨h1.1, h1.2.1, h1.2.2.1⟩
  · exact ⟨h2.1, h2.2.1, h2.2.2⟩
  · exact ⟨h3.1, h3.2.1, h3.2.2⟩
end
end Go.Ab.Wave
namespace Go.Ab.Wave
open Go Go.Ab
def kints (k : IntKind) (l : List Int) : List Value := l.map (.int k)
@[simp] theorem kints_length (k : IntKind) (l : List Int) : (kints k l).length = l.length := List.length_map ..
theorem kints_get {k : IntKind} {l : List Int} {o : Nat} (h : o < l.length) : cellAt (kints k l) o = some (.int k (gi l o)) := by simp [kints, cellAt, gi, h]
theorem kints_4 {k : IntKind} {l : List Int} {o : Nat} (h : o + 4 ≤ l.length) : partA (kints k l) o (some 4) = some (.agg ⟨[.int k (gi l o), .int k (gi l (o + 1)), .int k (gi l (o + 2)), .int k (gi l (o + 3))]⟩) := by
  rw [partA_some (by rw [kints_length]; exact h)]
  have e : ∀ s, o + s ≤ l.length → ((kints k l).drop o).take s = (List.range s).map fun i => .int k (gi l (o + i)) := by
    intro s
    induction s with
    | zero => intro _; rfl
    | succ s ih =>
      intro h
      have hs : o + s < l.length := by omega
      have hg : (kints k l)[o + s]? = some (.int k (gi l (o + s))) := kints_get hs
      rw [List.take_add_one, ih (by omega), List.getElem?_drop, hg, List.range_succ, List.map_append]
      rfl
  rw [e 4 h]
  rfl
theorem AccS.set_low {N k x : Nat} {A : Hp} {cs : List Value} {sv : Value} {b : Option ABlk} (h : AccS N A k cs sv) (hx : x < N) (hN : N ≤ A.n) : AccS N (A.set x b) k cs sv := by
  rcases h with h | ⟨y, m, h1, h2, h3, h4, h5⟩
  · exact .inl h
  · exact .inr ⟨y, m, h1, by rw [get_set_ne (by omega) (by omega)]; exact h2, h3, h4, h5⟩
theorem pairsOf_cells2 : ∀ l : List (Int × Int), pairsOf (cellsOf l) = some l
  | [] => rfl
  | p :: l => by
    have e : cellsOf (p :: l) = J p.1 :: J p.2 :: cellsOf l := rfl
    rw [e]
    show (pairsOf (cellsOf l)).map _ = _
    rw [pairsOf_cells2 l]
    rfl
theorem AccS.ground {N : Nat} {A : Hp} {l : List (Int × Int)} {sv : Value} (h : AccS N A 2 (ints (flat2 l)) sv) (hl : l.length < 1000000) : groundOf A sv = some l := by
  rcases h with ⟨h1, h2⟩ | ⟨y, m, h1, h2, h3, h4, h5⟩
  · have h0 : l.length = 0 := by have := congrArg List.length h2; rw [ints_length, flat2_length] at this; have e : l.length * 2 = 0 := this; omega
    rw [h1, List.eq_nil_of_length_eq_zero h0]; rfl
  · rw [ints_length, flat2_length] at h4
    have hm : m = l.length := by omega
    subst hm
    rw [h1]
    unfold groundOf
    rw [← cellsOf_flat] at h2
    simp only [h2, pairsOf_cells2]
    rw [if_pos ⟨trivial, by omega⟩]
theorem tmod_nat {i m : Nat} : (i : Int).tmod (m : Int) = ((i % m : Nat) : Int) := rfl
structure Coast where
  wd : Int
  hg : Int
  lowV : Value
  moreV : Value
  sea : Int
  seaM : Int
  k0 : Int
  k1 : Int
  l0 : Int
  l1 : Int
  o0 : Int
  o1 : Int
  low : List Int
  more : List Int
def Coast.cells (C : Coast) : List Value := [.int .u8 C.wd, .int .u8 C.hg, C.lowV, C.moreV, .int .i8 C.sea, .int .u8 C.seaM, .int .u16 C.k0, .int .u16 C.k1, .int .u16 C.l0, .int .u16 C.l1, .int .u8 C.o0, .int .u8 C.o1]
structure Coast.Ok (C : Coast) : Prop where
  wd : 0 ≤ C.wd ∧ C.wd ≤ 255
  hg : 0 ≤ C.hg ∧ C.hg ≤ 255
  sea : -128 ≤ C.sea ∧ C.sea ≤ 127
  seaM : 0 ≤ C.seaM ∧ C.seaM ≤ 255
  k0 : 0 ≤ C.k0 ∧ C.k0 ≤ 65535
  k1 : 0 ≤ C.k1 ∧ C.k1 ≤ 65535
  l0 : 0 ≤ C.l0 ∧ C.l0 ≤ 65535
  l1 : 0 ≤ C.l1 ∧ C.l1 ≤ 65535
  o0 : 0 ≤ C.o0 ∧ C.o0 ≤ 255
  o1 : 0 ≤ C.o1 ∧ C.o1 ≤ 255
  low : ∀ i, -32768 ≤ gi C.low i ∧ gi C.low i ≤ 32767
  more : ∀ i, 0 ≤ gi C.more i ∧ gi C.more i ≤ 255
  lowN : C.low.length ≤ 9223372036854775807
  moreN : C.more.length ≤ 9223372036854775807
structure Coast.At (A : Hp) (C : Coast) : Prop where
  low : RdS A 1 C.low.length (kints .i16 C.low) C.lowV
  more : RdS A 1 C.more.length (kints .u8 C.more) C.moreV
theorem Coast.At.mono {A A' : Hp} {C : Coast} (h : C.At A) (hA : ∀ x, x < A.n → A'.get x = A.get x) : C.At A' := ⟨h.low.mono hA, h.more.mono hA⟩
def Coast.w (C : Coast) : Int := 1 + C.wd.tmod 4
def Coast.h (C : Coast) : Int := 1 + C.hg.tmod 4
def Coast.n (C : Coast) : Nat := (C.w * C.h).toNat
def Coast.gl (C : Coast) (i : Nat) : Int := if 0 < C.low.length then gi C.low (i % C.low.length) else 0
def Coast.gm (C : Coast) (i : Nat) : Int := if 0 < C.more.length then gi C.more (i % C.more.length) else 0
def Coast.gnd (C : Coast) (i : Nat) : List (Int × Int) := (List.range i).map fun j => (C.gl j, C.gl j + C.gm j)
theorem Coast.gnd_len {C : Coast} {i : Nat} : (C.gnd i).length = i := by simp [Coast.gnd]
theorem Coast.gnd_succ {C : Coast} {i : Nat} : ints (flat2 (C.gnd (i + 1))) = ints (flat2 (C.gnd i)) ++ [.int .i64 (C.gl i), .int .i64 (C.gl i + C.gm i)] := by
  unfold Coast.gnd
  rw [List.range_succ, List.map_append]
  simp [flat2, ints]
theorem Coast.Ok.wh {C : Coast} (h : C.Ok) : (1 ≤ C.w ∧ C.w ≤ 4) ∧ (1 ≤ C.h ∧ C.h ≤ 4) ∧ (C.n : Int) = C.w * C.h ∧ 1 ≤ C.n ∧ C.n ≤ 16 := by
  have h1 := h.wd
  have h2 := h.hg
  have e1 : C.w = 1 + C.wd % 4 := by unfold Coast.w; rw [Int.tmod_eq_emod_of_nonneg h1.1]
  have e2 : C.h = 1 + C.hg % 4 := by unfold Coast.h; rw [Int.tmod_eq_emod_of_nonneg h2.1]
  have hw : 1 ≤ C.w ∧ C.w ≤ 4 := by omega
  have hh : 1 ≤ C.h ∧ C.h ≤ 4 := by omega
  have a1 := Int.mul_le_mul hw.1 hh.1 (by omega) (by omega)
  have a2 := Int.mul_le_mul hw.2 hh.2 (by omega) (by omega)
  unfold Coast.n
  omega
theorem Coast.Ok.g {C : Coast} (h : C.Ok) (i : Nat) : (-32768 ≤ C.gl i ∧ C.gl i ≤ 32767) ∧ (0 ≤ C.gm i ∧ C.gm i ≤ 255) := by
  unfold Coast.gl Coast.gm
  have h1 := h.low (i % C.low.length)
  have h2 := h.more (i % C.more.length)
  split <;> split <;> omega
def ordLo (a b lo m : Int) : Int := lo + min (a.tmod m) (b.tmod m)
def ordHi (a b lo m : Int) : Int := lo + max (a.tmod m) (b.tmod m)
def Coast.P (C : Coast) (sl : Value) : Par := ⟨false, C.w, C.h, 500, sl, C.gnd C.n, C.sea, C.sea + C.seaM.tmod 50, ordLo C.k0 C.k1 1 1024, ordHi C.k0 C.k1 1 1024, ordLo C.l0 C.l1 10 2000, ordHi C.l0 C.l1 10 2000, ordLo C.o0 C.o1 0 256, ordHi C.o0 C.o1 0 256⟩
section
variable {g : Nat} {A : Hp} {V : Value → Hp → Prop}
theorem w25 {a b : Int} (hg : g ≤ A.n) (hQ : ∀ A', Ext' A A' → V (spn a b) A') : WF AP KL g 25 [.int .i64 a, .int .i64 b] A V := by
  rw [WF_body rfl (show AP 25 = some F25 from rfl)]
  simp (disch := as_aux_lemma => first | omega | simp only [hDs] <;> omega | simp [isCell]) [hRs, takeMarks, resA, resAll, resOne, Value.cells, storeB_cells, setRange_all, fillA, setRange, set_push_eq]
  exact hQ _ (Ext'.push _ _)
theorem w49 {a b lo m : Int} (hg : g ≤ A.n) (ha : 0 ≤ a ∧ a ≤ 65535) (hb : 0 ≤ b ∧ b ≤ 65535) (hlo : 0 ≤ lo ∧ lo ≤ 1000) (hm : 1 ≤ m ∧ m ≤ 10000) (hQ : ∀ A', Ext' A A' → V (spn (ordLo a b lo m) (ordHi a b lo m)) A') :
    WF AP KL g 49 [.int .i64 a, .int .i64 b, .int .i64 lo, .int .i64 m] A V := by
  have e1 : 0 ≤ a.tmod m ∧ a.tmod m < m := ⟨Int.tmod_nonneg _ ha.1, Int.tmod_lt_of_pos _ (by omega)⟩
  have e2 : 0 ≤ b.tmod m ∧ b.tmod m < m := ⟨Int.tmod_nonneg _ hb.1, Int.tmod_lt_of_pos _ (by omega)⟩
  rw [WF_body rfl (show AP 49 = some F49 from rfl)]
  simp (disch := as_aux_lemma => first | omega | simp only [hDs] <;> omega | simp [isCell]) [hRs, takeMarks, resA, resAll, resOne, Value.cells, binA_rem (show m ≠ 0 by omega), wrId (n := lo + a.tmod m) (by omega) (by omega), wrId (n := lo + b.tmod m) (by omega) (by omega)]
  refine w25 (by simp; omega) fun A1 k1 => ?_
  have hb := k1.get (get_push_new (A := A) (b := .cells [.int .i64 0, .int .i64 0] false))
  simp (disch := as_aux_lemma => first | omega | simp only [hDs] <;> omega | simp [isCell]) [hRs, takeMarks, resA, resAll, resOne, Value.cells, spn, hb, storeB_cells, setRange_all, get_set_same hb]
  have kk : A.n + 1 ≤ A1.n := k1.1
  refine hQ _ ⟨by show A.n ≤ A1.n; omega, fun x hx => ?_⟩
  rw [get_set_ne (Hp.lt_of_get hb) (Nat.ne_of_lt hx), k1.2 x (by simp; omega), get_push_old hx]
end
section
variable {g : Nat} {D : List Nat} {rd : Option Nat} {Q : Ex → St → Prop}
theorem loop24 {A0 : Hp} {C : Coast} {b1 b5 : Nat} {T0 : List Value} (hC : C.Ok) (hAt : ∀ A, (∀ x, x < b5 → A.get x = A0.get x) → C.At A) (hg : g ≤ b5) (h1 : A0.get b1 = some (.cells C.cells false)) (h15 : b1 < b5) (h5 : b5 < A0.n)
    (hQ : ∀ T' A' sv, A0.n ≤ A'.n → (∀ x, x < A0.n → x ≠ b5 → A'.get x = A0.get x) → A'.get b5 = some (.cells [.int .i64 C.w, .int .i64 C.h, .int .i64 500, sv] false) → AccS A0.n A' 2 (ints (flat2 (C.gnd C.n))) sv → (∀ i, i < 6 → tget T' i = tget T0 i) → Q (.exit 0) ⟨T', D, A'⟩) :
    ∀ (k i : Nat) (T : List Value) (A : Hp) (sv : Value), i + k = C.n → A0.n ≤ A.n → (∀ x, x < A0.n → x ≠ b5 → A.get x = A0.get x) → A.get b5 = some (.cells [.int .i64 C.w, .int .i64 C.h, .int .i64 500, sv] false) → AccS A0.n A 2 (ints (flat2 (C.gnd i))) sv →
      (∀ i, i < 6 → tget T i = tget T0 i) → tget T0 1 = ptrV b1 → tget T0 5 = ptrV b5 → tget T 25 = .int .i64 C.n → tget T 26 = .int .i64 i → W AP KL g rd (.loop body24) ⟨T, D, A⟩ Q := by
  intro k
  have hwh := hC.wh
  induction k with
  | zero =>
    intro i T A sv hi hn hold hb5 hacc hT t1 t5 t25 t26
    have : i = C.n := by omega
    rw [W_loop]
    simp (disch := as_aux_lemma => first | omega | simp only [hDs] <;> omega | simp [isCell]) [hRs, takeMarks, resA, resAll, resOne, Value.cells, body24, t25, t26, show ¬ ((i : Int) < C.n) by omega]
    refine hQ _ A sv hn hold hb5 (by rw [← this]; exact hacc) fun j hj => ?_
    simp only [tget_tset]
    rw [if_neg (by omega)]
    exact hT j hj
  | succ k ih =>
    intro i T A sv hi hn hold hb5 hacc hT t1' t5' t25 t26
    have t1 := (hT 1 (by omega)).trans t1'
    have t5 := (hT 5 (by omega)).trans t5'
    have hAtA : C.At A := hAt A fun x hx => hold x (by omega) (by omega)
    have hb1 : A.get b1 = _ := (hold b1 (by omega) (by omega)).trans h1
    have n1 := Hp.lt_of_get hb1
    have n5 := Hp.lt_of_get hb5
    have hgi := hC.g i
    have hll := hC.lowN
    have hml := hC.moreN
    have lenL := hAtA.low.len
    have lenM := hAtA.more.len
    have fin : ∀ (A1 : Hp) (ro : Bool), (∀ x, x < A.n → A1.get x = A.get x) → A.n ≤ A1.n →
        ∃ sp sm sc A', appendA g (A1.push (.cells [.int .i64 (C.gl i), .int .i64 (C.gl i + C.gm i)] ro)) 2 16 sv (.slice (some ⟨A1.n, 0, some 2⟩) 1 1) = some (.slice sp sm sc, A') ∧ A'.get b5 = some (.cells [.int .i64 C.w, .int .i64 C.h, .int .i64 500, sv] false) ∧
          ∀ (T' : List Value), (∀ i, i < 6 → tget T' i = tget T i) → tget T' 25 = .int .i64 C.n → tget T' 26 = .int .i64 ((i : Int) + 1) → W AP KL g rd (.loop body24) ⟨T', D, A'.set b5 (some (.cells [.int .i64 C.w, .int .i64 C.h, .int .i64 500, .slice sp sm sc] false))⟩ Q := by
      intro A1 ro hA1 hn1
      obtain ⟨sv', A', e, hacc', hold', hn''⟩ := (hacc.mono hA1).add (g := g) (bytes := 16) (new := [.int .i64 (C.gl i), .int .i64 (C.gl i + C.gm i)]) (ro := ro) (n := i) (by omega) (by omega) rfl (by decide) rfl (by rw [ints_length, flat2_length, Coast.gnd_len]) (by unfold room; omega)
      have g5 : A'.get b5 = some (.cells [.int .i64 C.w, .int .i64 C.h, .int .i64 500, sv] false) := by rw [hold' b5 (by omega), hA1 b5 n5]; exact hb5
      have l5 := Hp.lt_of_get g5
      obtain ⟨sp, sm, sc, rfl⟩ := hacc'.isSlice
      refine ⟨sp, sm, sc, A', e, g5, fun T' hT' t25' t26' => ?_⟩
      refine ih (i + 1) T' _ _ (by omega) (by show _ ≤ A'.n; omega) (fun x hx hx5 => ?_) (get_set_same g5) ?_ (fun j hj => (hT' j hj).trans (hT j hj)) t1' t5' t25' (by rw [t26']; simp)
      · rw [get_set_ne l5 hx5, hold' x (by omega), hA1 x (by omega), hold x hx hx5]
      · rw [Coast.gnd_succ]
        exact AccS.set_low hacc' h5 (by omega)
    have go : ∃ sp sm sc A', appendA g ((A.push (.cells [.int .i64 (C.gl i), .int .i64 (C.gl i + C.gm i)] false)).push (.cells [.int .i64 (C.gl i), .int .i64 (C.gl i + C.gm i)] false)) 2 16 sv (.slice (some ⟨A.n + 1, 0, some 2⟩) 1 1) = some (.slice sp sm sc, A') ∧ A'.get b5 = some (.cells [.int .i64 C.w, .int .i64 C.h, .int .i64 500, sv] false) ∧ _ :=
      fin (A.push (.cells [.int .i64 (C.gl i), .int .i64 (C.gl i + C.gm i)] false)) false (fun x hx => get_push_old hx) (Nat.le_succ _)
    obtain ⟨sp, sm, sc, A', e, g5, go⟩ := go
    have n5' := Hp.lt_of_get g5
    have tn : ∀ m : Nat, ((i : Int) % (m : Int)).toNat = i % m := fun m => by rw [← Int.natCast_emod]; exact Int.toNat_natCast _
    have hlow := hC.low
    have hmore := hC.more
    rw [W_loop]
    by_cases hl : 0 < C.low.length
    · obtain ⟨x, cx, rx, hxv, hx⟩ := hAtA.low.at (i := i % C.low.length) (Nat.mod_lt _ hl)
      have nx := Hp.lt_of_get hx
      have eg : C.gl i = gi C.low (i % C.low.length) := by unfold Coast.gl; rw [if_pos hl]
      have ml : i % C.low.length < C.low.length := Nat.mod_lt _ hl
      have ql : 0 ≤ (i : Int) % (C.low.length : Int) ∧ (i : Int) % (C.low.length : Int) < C.low.length := ⟨Int.emod_nonneg _ (by omega), Int.emod_lt_of_pos _ (by omega)⟩
      rw [hxv] at lenL
      by_cases hm : 0 < C.more.length
      · obtain ⟨y, cy, ry, hyv, hy⟩ := hAtA.more.at (i := i % C.more.length) (Nat.mod_lt _ hm)
        have ny := Hp.lt_of_get hy
        have em : C.gm i = gi C.more (i % C.more.length) := by unfold Coast.gm; rw [if_pos hm]
        have mm : i % C.more.length < C.more.length := Nat.mod_lt _ hm
        have qm : 0 ≤ (i : Int) % (C.more.length : Int) ∧ (i : Int) % (C.more.length : Int) < C.more.length := ⟨Int.emod_nonneg _ (by omega), Int.emod_lt_of_pos _ (by omega)⟩
        rw [hyv] at lenM
        rw [eg, em] at e
        simp (disch := as_aux_lemma => first | omega | simp only [hDs] <;> omega | simp [isCell]) [hRs, takeMarks, resA, resAll, resOne, Value.cells, body24, t25, t26, show (i : Int) < C.n by omega, t1, t5, ptrV, hb1, Coast.cells, fillA, storeB_cells, setRange_all, set_push_eq, tmod_nat, tn, idxSA_ok, kints_get, toIntA_int, setRange, hb5, g5, slitA, e, storeB_cells, hxv, lenL, show (0 : Int) < C.low.length by omega, hl, binA_rem, show ¬ ((C.low.length : Int) = 0) by omega, ml, hx, wrId (n := gi C.low (i % C.low.length)) (by have := hlow (i % C.low.length); omega) (by have := hlow (i % C.low.length); omega), hyv, lenM, show (0 : Int) < C.more.length by omega, hm, binA_rem, show ¬ ((C.more.length : Int) = 0) by omega, mm, hy, wrId (n := gi C.more (i % C.more.length)) (by have := hmore (i % C.more.length); omega) (by have := hmore (i % C.more.length); omega), wrId (n := gi C.low (i % C.low.length) + gi C.more (i % C.more.length)) (by omega) (by omega)]
        refine go _ ?_ ?_ ?_
        · intro j hj
          simp only [tget_tset]
          repeat (rw [if_neg (by omega)])
        · simp [t25]
        · simp [wrId (n := (i : Int) + 1) (by omega) (by omega)]
      · have em : C.gm i = 0 := by unfold Coast.gm; rw [if_neg hm]
        have hm0 : C.more.length = 0 := by omega
        rw [hm0] at lenM
        rw [eg, em, Int.add_zero] at e
        simp (disch := as_aux_lemma => first | omega | simp only [hDs] <;> omega | simp [isCell]) [hRs, takeMarks, resA, resAll, resOne, Value.cells, body24, t25, t26, show (i : Int) < C.n by omega, t1, t5, ptrV, hb1, Coast.cells, fillA, storeB_cells, setRange_all, set_push_eq, tmod_nat, tn, idxSA_ok, kints_get, toIntA_int, setRange, hb5, g5, slitA, e, storeB_cells, hxv, lenL, show (0 : Int) < C.low.length by omega, hl, binA_rem, show ¬ ((C.low.length : Int) = 0) by omega, ml, hx, wrId (n := gi C.low (i % C.low.length)) (by have := hlow (i % C.low.length); omega) (by have := hlow (i % C.low.length); omega), lenM, wrId (n := (0 : Int)) (by omega) (by omega)]
        refine go _ ?_ ?_ ?_
        · intro j hj
          simp only [tget_tset]
          repeat (rw [if_neg (by omega)])
        · simp [t25]
        · simp [wrId (n := (i : Int) + 1) (by omega) (by omega)]
    · have eg : C.gl i = 0 := by unfold Coast.gl; rw [if_neg hl]
      have hl0 : C.low.length = 0 := by omega
      rw [hl0] at lenL
      by_cases hm : 0 < C.more.length
      · obtain ⟨y, cy, ry, hyv, hy⟩ := hAtA.more.at (i := i % C.more.length) (Nat.mod_lt _ hm)
        have ny := Hp.lt_of_get hy
        have em : C.gm i = gi C.more (i % C.more.length) := by unfold Coast.gm; rw [if_pos hm]
        have mm : i % C.more.length < C.more.length := Nat.mod_lt _ hm
        have qm : 0 ≤ (i : Int) % (C.more.length : Int) ∧ (i : Int) % (C.more.length : Int) < C.more.length := ⟨Int.emod_nonneg _ (by omega), Int.emod_lt_of_pos _ (by omega)⟩
        rw [hyv] at lenM
        rw [eg, em, Int.zero_add] at e
        simp (disch := as_aux_lemma => first | omega | simp only [hDs] <;> omega | simp [isCell]) [hRs, takeMarks, resA, resAll, resOne, Value.cells, body24, t25, t26, show (i : Int) < C.n by omega, t1, t5, ptrV, hb1, Coast.cells, fillA, storeB_cells, setRange_all, set_push_eq, tmod_nat, tn, idxSA_ok, kints_get, toIntA_int, setRange, hb5, g5, slitA, e, storeB_cells, lenL, hyv, lenM, show (0 : Int) < C.more.length by omega, hm, binA_rem, show ¬ ((C.more.length : Int) = 0) by omega, mm, hy, wrId (n := gi C.more (i % C.more.length)) (by have := hmore (i % C.more.length); omega) (by have := hmore (i % C.more.length); omega), wrId (n := gi C.more (i % C.more.length)) (by omega) (by omega)]
        refine go _ ?_ ?_ ?_
        · intro j hj
          simp only [tget_tset]
          repeat (rw [if_neg (by omega)])
        · simp [t25]
        · simp [wrId (n := (i : Int) + 1) (by omega) (by omega)]
      · have em : C.gm i = 0 := by unfold Coast.gm; rw [if_neg hm]
        have hm0 : C.more.length = 0 := by omega
        rw [hm0] at lenM
        rw [eg, em, Int.add_zero] at e
        simp (disch := as_aux_lemma => first | omega | simp only [hDs] <;> omega | simp [isCell]) [hRs, takeMarks, resA, resAll, resOne, Value.cells, body24, t25, t26, show (i : Int) < C.n by omega, t1, t5, ptrV, hb1, Coast.cells, fillA, storeB_cells, setRange_all, set_push_eq, tmod_nat, tn, idxSA_ok, kints_get, toIntA_int, setRange, hb5, g5, slitA, e, storeB_cells, lenL, lenM, wrId (n := (0 : Int)) (by omega) (by omega)]
        refine go _ ?_ ?_ ?_
        · intro j hj
          simp only [tget_tset]
          repeat (rw [if_neg (by omega)])
        · simp [t25]
        · simp [wrId (n := (i : Int) + 1) (by omega) (by omega)]
end
end Go.Ab.Wave
namespace Go.Ab.Wave
open Go Go.Ab
section
variable {g : Nat} {A : Hp} {V : Value → Hp → Prop}
theorem w24 {C : Coast} (hC : C.Ok) (hAt : C.At A) (hg : g ≤ A.n) (hQ : ∀ A' sv, Ext' A A' → AccS A.n A' 2 (ints (flat2 (C.gnd C.n))) sv → V (.tuple ⟨[gridV C.w C.h 500 sv, spn (C.P sv).slo (C.P sv).shi, modelV (C.P sv).k0 (C.P sv).k1 (C.P sv).l0 (C.P sv).l1 (C.P sv).o0 (C.P sv).o1]⟩) A') :
    WF AP KL g 24 [.agg ⟨C.cells⟩] A V := by
  have hwh := hC.wh
  have h1 := hC.wd
  have h2 := hC.hg
  have h3 := hC.sea
  have h4 := hC.seaM
  have e1 : 0 ≤ C.wd.tmod 4 ∧ C.wd.tmod 4 < 4 := ⟨Int.tmod_nonneg _ h1.1, Int.tmod_lt_of_pos _ (by omega)⟩
  have e2 : 0 ≤ C.hg.tmod 4 ∧ C.hg.tmod 4 < 4 := ⟨Int.tmod_nonneg _ h2.1, Int.tmod_lt_of_pos _ (by omega)⟩
  have e3 : 0 ≤ C.seaM.tmod 50 ∧ C.seaM.tmod 50 < 50 := ⟨Int.tmod_nonneg _ h4.1, Int.tmod_lt_of_pos _ (by omega)⟩
  have hk0 := hC.k0
  have hk1 := hC.k1
  have hl0 := hC.l0
  have hl1 := hC.l1
  have ho0 := hC.o0
  have ho1 := hC.o1
  rw [WF_body rfl (show AP 24 = some F24 from rfl)]
  have ew : 1 + C.wd.tmod 4 = C.w := rfl
  have eh : 1 + C.hg.tmod 4 = C.h := rfl
  obtain ⟨B, hB⟩ : ∃ B, B = ((((A.push (.cells C.cells false)).push (.cells [.int .i64 0, .int .i64 0, .int .i64 0, .slice none 0 0] false)).push (.cells [.int .i64 0, .int .i64 0] false)).push (.cells [.int .i64 0, .int .i64 0, .int .i64 0, .int .i64 0, .int .i64 0, .int .i64 0] false)).push (.cells [.int .i64 C.w, .int .i64 C.h, .int .i64 500, .slice none 0 0] false) := ⟨_, rfl⟩
  have nB : B.n = A.n + 5 := by rw [hB]; rfl
  have bo : ∀ x, x < A.n → B.get x = A.get x := fun x hx => by rw [hB, get_push_old (by simp; omega), push4_old hx]
  have b1 : B.get A.n = some (.cells C.cells false) := by rw [hB, get_push_old (by simp; omega), get_push_old (by simp; omega)]; exact push3_a
  have b2 : B.get (A.n + 1) = some (.cells [.int .i64 0, .int .i64 0, .int .i64 0, .slice none 0 0] false) := by rw [hB, get_push_old (by simp), get_push_old (by simp)]; exact push3_b
  have b3 : B.get (A.n + 2) = some (.cells [.int .i64 0, .int .i64 0] false) := by rw [hB, get_push_old (by simp), get_push_old (by simp)]; exact push3_c
  have b4 : B.get (A.n + 3) = some (.cells [.int .i64 0, .int .i64 0, .int .i64 0, .int .i64 0, .int .i64 0, .int .i64 0] false) := by rw [hB, get_push_old (by simp)]; exact get_push_eq (by simp)
  have b5 : B.get (A.n + 4) = some (.cells [.int .i64 C.w, .int .i64 C.h, .int .i64 500, .slice none 0 0] false) := by rw [hB]; exact get_push_eq (by simp)
  simp (disch := as_aux_lemma => first | omega | simp only [hDs] <;> omega | simp [isCell]) [hRs, takeMarks, resA, resAll, resOne, Value.cells, toIntA_int, wrId (n := C.wd) (by omega) (by omega), wrId (n := C.hg) (by omega) (by omega), binA_rem, ew, eh, wrId (n := C.w) (by omega) (by omega), wrId (n := C.h) (by omega) (by omega), fillA, setRange, storeB_cells, set_push_eq, Coast.cells, wrId (n := C.w * C.h) (by omega) (by omega)]
  have hB' := hB
  unfold Coast.cells at hB'
  rw [← hB']
  refine loop24 (C := C) (A0 := B) (b1 := A.n) (b5 := A.n + 4) (T0 := _) hC (fun A' h => hAt.mono fun x hx => (h x (by omega)).trans (bo x hx)) (by omega) b1 (by omega) (by omega) (fun T' A' sv hn hold h5 hacc hT => ?_) C.n 0 _ B (.slice none 0 0) (by omega) (Nat.le_refl _) (fun _ _ _ => rfl) b5 AccS.nil (fun _ _ => rfl) ?_ ?_ ?_ ?_
  · obtain ⟨sp, sm, sc, rfl⟩ := hacc.isSlice
    have q1 := hT 1 (by omega)
    have q2 := hT 2 (by omega)
    have q3 := hT 3 (by omega)
    have q4 := hT 4 (by omega)
    have q5 := hT 5 (by omega)
    simp at q1 q2 q3 q4 q5
    have c1 := (hold _ (by omega) (by omega)).trans b1
    have c2 := (hold _ (by omega) (by omega)).trans b2
    have c3 := (hold _ (by omega) (by omega)).trans b3
    have c4 := (hold _ (by omega) (by omega)).trans b4
    unfold Coast.cells at c1
    simp (disch := as_aux_lemma => first | omega | simp only [hDs] <;> omega | simp [isCell]) [hRs, takeMarks, resA, resAll, resOne, Value.cells, q1, c1, idxAA_ok, toIntA_int, wrId (n := C.k0) (by omega) (by omega), wrId (n := C.k1) (by omega) (by omega)]
    refine w49 (by omega) hk0 hk1 (by omega) (by omega) fun A1 k1 => ?_
    have d1 := k1.get c1
    simp (disch := as_aux_lemma => first | omega | simp only [hDs] <;> omega | simp [isCell]) [hRs, takeMarks, resA, resAll, resOne, Value.cells, q1, d1, idxAA_ok, toIntA_int, wrId (n := C.l0) (by omega) (by omega), wrId (n := C.l1) (by omega) (by omega)]
    refine w49 (by have := k1.1; omega) hl0 hl1 (by omega) (by omega) fun A2 k2 => ?_
    have d1 := k2.get d1
    simp (disch := as_aux_lemma => first | omega | simp only [hDs] <;> omega | simp [isCell]) [hRs, takeMarks, resA, resAll, resOne, Value.cells, q1, d1, idxAA_ok, toIntA_int, wrId (n := C.o0) (by omega) (by omega), wrId (n := C.o1) (by omega) (by omega)]
    refine w49 (by have := k1.1; have := k2.1; omega) (by omega) (by omega) (by omega) (by omega) fun A3 k3 => ?_
    have d1 := k3.get d1
    have kk := (k1.trans k2).trans k3
    have d5 := kk.get h5
    have n3 := kk.1
    simp (disch := as_aux_lemma => first | omega | simp only [hDs] <;> omega | simp [isCell]) [hRs, takeMarks, resA, resAll, resOne, Value.cells, q1, q2, q3, q4, q5, d1, d5, spn, fillA, setRange, storeB_cells, set_push_eq, toIntA_int, wrId (n := C.sea) (by omega) (by omega), wrId (n := C.seaM) (by omega) (by omega), binA_rem, wrId (n := C.sea + C.seaM.tmod 50) (by omega) (by omega)]
    refine w25 (Nat.le_refl _) fun A4 k4 => ?_
    have e1 := k4.get ((Ext'.push A3 _).get (kk.get c2))
    have e2 := k4.get ((Ext'.push A3 _).get (kk.get c3))
    have e3 := k4.get ((Ext'.push A3 _).get (kk.get c4))
    have e9 := k4.get (get_push_new (A := A3))
    have l1 := Hp.lt_of_get e1
    have l2 := Hp.lt_of_get e2
    have l3 := Hp.lt_of_get e3
    have l9 := Hp.lt_of_get e9
    have s1 : ∀ b0, (A4.set (A.n + 1) b0).get (A.n + 1) = b0 := fun b0 => get_set_same e1
    have s2 : ∀ b0, (A4.set (A.n + 1) b0).get (A.n + 2) = _ := fun b0 => (get_set_ne l1 (by omega)).trans e2
    have s3 : ∀ b0, (A4.set (A.n + 1) b0).get (A.n + 3) = _ := fun b0 => (get_set_ne l1 (by omega)).trans e3
    have s4 : ∀ b0 b1, ((A4.set (A.n + 1) b0).set (A.n + 2) b1).get (A.n + 2) = b1 := fun b0 b1 => get_set_same (s2 b0)
    have s5 : ∀ b0 b1, ((A4.set (A.n + 1) b0).set (A.n + 2) b1).get (A.n + 1) = b0 := fun b0 b1 => (get_set_ne (by show _ < A4.n; omega) (by omega)).trans (s1 b0)
    have s6 : ∀ b0 b1, ((A4.set (A.n + 1) b0).set (A.n + 2) b1).get (A.n + 3) = _ := fun b0 b1 => (get_set_ne (by show _ < A4.n; omega) (by omega)).trans (s3 b0)
    have s7 : ∀ b0 b1 b2, (((A4.set (A.n + 1) b0).set (A.n + 2) b1).set (A.n + 3) b2).get (A.n + 3) = b2 := fun b0 b1 b2 => get_set_same (s6 b0 b1)
    have s8 : ∀ b0 b1 b2, (((A4.set (A.n + 1) b0).set (A.n + 2) b1).set (A.n + 3) b2).get (A.n + 1) = b0 := fun b0 b1 b2 => (get_set_ne (by show _ < A4.n; omega) (by omega)).trans (s5 b0 b1)
    have s9 : ∀ b0 b1 b2, (((A4.set (A.n + 1) b0).set (A.n + 2) b1).set (A.n + 3) b2).get (A.n + 2) = b1 := fun b0 b1 b2 => (get_set_ne (by show _ < A4.n; omega) (by omega)).trans (s4 b0 b1)
    simp (disch := as_aux_lemma => first | omega | simp only [hDs] <;> omega | simp [isCell]) [hRs, takeMarks, resA, resAll, resOne, Value.cells, q1, q2, q3, q4, q5, apartA, spn, e1, e2, e3, e9, storeB_cells, setRange_all, show ¬ (A.n + 1 = A3.n) by omega, show ¬ (A.n + 2 = A3.n) by omega, s2, s6, s7, s8, s9]
    have k44 : ∀ x, x < A.n + 1 → A4.get x = A'.get x := fun x hx => by rw [k4.2 x (by show x < A3.n + 1; omega), get_push_old (by omega), kk.2 x (by omega)]
    have lo : ∀ b0 b1 b2 x, x ≠ A.n + 1 → x ≠ A.n + 2 → x ≠ A.n + 3 → (((A4.set (A.n + 1) b0).set (A.n + 2) b1).set (A.n + 3) b2).get x = A4.get x := fun b0 b1 b2 x h1 h2 h3 => by
      rw [get_set_ne (by show _ < A4.n; omega) h3, get_set_ne (by show _ < A4.n; omega) h2, get_set_ne (by show _ < A4.n; omega) h1]
    refine hQ _ (.slice sp sm sc) ⟨by show A.n ≤ A4.n; omega, fun x hx => ?_⟩ ?_
    · rw [lo _ _ _ x (by omega) (by omega) (by omega), k44 x (by omega), hold x (by omega) (by omega), bo x hx]
    · rcases hacc with hacc | ⟨y, m, h1, h2, h3, h4, h5⟩
      · exact .inl hacc
      · have hy := Hp.lt_of_get h2
        refine .inr ⟨y, m, h1, ?_, by omega, h4, h5⟩
        rw [lo _ _ _ y (by omega) (by omega) (by omega), k4.2 y (by show y < A3.n + 1; omega), get_push_old (by omega), kk.2 y hy]
        exact h2
  all_goals simp [ptrV, hwh.2.2.1]
end
end Go.Ab.Wave
namespace Go.Ab.Wave
open Go Go.Ab
def st1 (n : Nat) (ls : List Int) (i : Nat) : List Int := [(gi ls (i * 4)).tmod n, gi ls (i * 4 + 1) * 10, gi ls (i * 4 + 1) * 10 + gi ls (i * 4 + 3), (gi ls (i * 4 + 2)).tmod 4000, (gi ls (i * 4 + 2)).tmod 4000 + (gi ls (i * 4 + 3)).tmod 900]
def stZ (n : Nat) (ls : List Int) (m : Nat) : List Int := (List.range m).flatMap (st1 n ls)
theorem stZ_succ {n m : Nat} {ls : List Int} : stZ n ls (m + 1) = stZ n ls m ++ st1 n ls m := by unfold stZ; rw [List.range_succ, List.flatMap_append, List.flatMap_singleton]
theorem stZ_len {n m : Nat} {ls : List Int} : (stZ n ls m).length = m * 5 := by
  induction m with
  | zero => rfl
  | succ m ih => rw [stZ_succ, List.length_append, ih]; simp [st1]; omega
theorem flat_getK {f : Nat → List Int} {k : Nat} (hf : ∀ i, (f i).length = k) : ∀ {n c r : Nat}, c < n → r < k → gi ((List.range n).flatMap f) (c * k + r) = gi (f c) r := by
  intro n
  induction n with
  | zero => intro c r h; omega
  | succ n ih =>
    intro c r hc hr
    rw [List.range_succ, List.flatMap_append, List.flatMap_singleton]
    have hl : ((List.range n).flatMap f).length = n * k := by
      clear ih hc
      induction n with
      | zero => simp
      | succ n ih => rw [List.range_succ, List.flatMap_append, List.flatMap_singleton, List.length_append, ih, hf, Nat.succ_mul]
    by_cases h : c < n
    · rw [← ih h hr]
      have h1 := Nat.mul_le_mul_right k (show c + 1 ≤ n by omega)
      rw [Nat.succ_mul] at h1
      unfold gi
      simp only [List.getD_eq_getElem?_getD]
      rw [List.getElem?_append_left (by omega)]
    · have : c = n := by omega
      subst this
      unfold gi
      simp only [List.getD_eq_getElem?_getD]
      rw [List.getElem?_append_right (by omega), hl]
      simp
theorem stZ_get {n m i r : Nat} {ls : List Int} (hi : i < m) (hr : r < 5) : gi (stZ n ls m) (i * 5 + r) = gi (st1 n ls i) r := flat_getK (f := st1 n ls) (k := 5) (fun _ => rfl) hi hr
theorem tmod_rng {a m : Int} (ha : 0 ≤ a) (hm : 0 < m) : 0 ≤ a.tmod m ∧ a.tmod m < m := ⟨Int.tmod_nonneg _ ha, Int.tmod_lt_of_pos _ hm⟩
theorem stZ_ok {P : Par} {ls : List Int} {m : Nat} (hn : 0 < P.l.length) (hl : ∀ i, 0 ≤ gi ls i ∧ gi ls i ≤ 65535) : StartOk P (stZ P.l.length ls m) m := by
  refine ⟨stZ_len, fun i hi => ?_, fun i hi => ?_, fun i hi => ?_⟩
  · have e := stZ_get (n := P.l.length) (ls := ls) hi (show 0 < 5 by decide)
    rw [Nat.add_zero] at e
    rw [e]
    exact tmod_rng (hl _).1 (by omega)
  · have e1 := stZ_get (n := P.l.length) (ls := ls) hi (show 1 < 5 by decide)
    have e2 := stZ_get (n := P.l.length) (ls := ls) hi (show 2 < 5 by decide)
    rw [e1, e2]
    show 0 ≤ gi ls (i * 4 + 1) * 10 ∧ gi ls (i * 4 + 1) * 10 ≤ gi ls (i * 4 + 1) * 10 + gi ls (i * 4 + 3) ∧ gi ls (i * 4 + 1) * 10 + gi ls (i * 4 + 3) ≤ 1000000000
    have := hl (i * 4 + 1)
    have := hl (i * 4 + 3)
    omega
  · have e1 := stZ_get (n := P.l.length) (ls := ls) hi (show 3 < 5 by decide)
    have e2 := stZ_get (n := P.l.length) (ls := ls) hi (show 4 < 5 by decide)
    rw [e1, e2]
    show 0 ≤ (gi ls (i * 4 + 2)).tmod 4000 ∧ (gi ls (i * 4 + 2)).tmod 4000 ≤ (gi ls (i * 4 + 2)).tmod 4000 + (gi ls (i * 4 + 3)).tmod 900 ∧ (gi ls (i * 4 + 2)).tmod 4000 + (gi ls (i * 4 + 3)).tmod 900 ≤ 5000
    have := tmod_rng (hl (i * 4 + 2)).1 (show (0 : Int) < 4000 by decide)
    have := tmod_rng (hl (i * 4 + 3)).1 (show (0 : Int) < 900 by decide)
    omega
section
variable {g : Nat} {D : List Nat} {rd : Option Nat} {Q : Ex → St → Prop} {A : Hp} {V : Value → Hp → Prop}
theorem loop30 {A0 : Hp} {T0 : List Value} {b2 N m : Nat} {w h s : Int} {sl lv : Value} {n : Nat} {ls : List Int} (hm : m < 1000000) (hn : 0 < n ∧ n < 1000000) (hg : g ≤ N) (hN : N ≤ A0.n) (hl : ∀ i, 0 ≤ gi ls i ∧ gi ls i ≤ 65535)
    (hlen : lenV sl = some (.int .i64 n)) (h2 : A0.get b2 = some (.cells [.int .i64 w, .int .i64 h, .int .i64 s, sl] false)) (hb2 : b2 < N) (hr : ∀ A, (∀ x, x < N → A.get x = A0.get x) → RdS A 4 m (kints .u16 ls) lv)
    (hQ : ∀ T' A' sv, A0.n ≤ A'.n → (∀ x, x < N → A'.get x = A0.get x) → AccS N A' 5 (ints (stZ n ls m)) sv → tget T' 5 = sv → Q (.exit 0) ⟨T', D, A'⟩) :
    ∀ (k i : Nat) (T : List Value) (A : Hp) (sv : Value), i + k = m → A0.n ≤ A.n → (∀ x, x < N → A.get x = A0.get x) → AccS N A 5 (ints (stZ n ls i)) sv → tget T 5 = sv → tget T 2 = ptrV b2 → tget T 10 = lv → tget T 11 = .int .i64 m → tget T 12 = .int .i64 i → W AP KL g rd (.loop body30) ⟨T, D, A⟩ Q := by
  intro k
  induction k with
  | zero =>
    intro i T A sv hi hnA hold hacc t5 t2 t10 t11 t12
    have : i = m := by omega
    subst this
    rw [W_loop]
    simp (disch := as_aux_lemma => first | omega | simp only [hDs] <;> omega | simp [isCell]) [hRs, takeMarks, resA, resAll, resOne, Value.cells, body30, t11, t12]
    exact hQ _ A sv hnA hold hacc (by simp [t5])
  | succ k ih =>
    intro i T A sv hi hnA hold hacc t5 t2 t10 t11 t12
    obtain ⟨y, cy, ry, hyv, hy⟩ := (hr A hold).at (i := i) (by omega)
    have hyl : ls.length = m * 4 := by have := (hr A hold).1; rwa [kints_length] at this
    have hb : A.get b2 = _ := (hold b2 hb2).trans h2
    have nb := Hp.lt_of_get hb
    have ny := Hp.lt_of_get hy
    have l0 := hl (i * 4)
    have l1 := hl (i * 4 + 1)
    have l2 := hl (i * 4 + 2)
    have l3 := hl (i * 4 + 3)
    have m0 := tmod_rng l0.1 (show (0 : Int) < n by omega)
    have m2 := tmod_rng l2.1 (show (0 : Int) < 4000 by decide)
    have m3 := tmod_rng l3.1 (show (0 : Int) < 900 by decide)
    rw [hyv] at t10
    obtain ⟨B, hB⟩ : ∃ B, B = A.push (.cells [.int .u16 (gi ls (i * 4)), .int .u16 (gi ls (i * 4 + 1)), .int .u16 (gi ls (i * 4 + 2)), .int .u16 (gi ls (i * 4 + 3))] false) := ⟨_, rfl⟩
    have kB : Ext' A B := by rw [hB]; exact Ext'.push _ _
    have gB : B.get A.n = some (.cells [.int .u16 (gi ls (i * 4)), .int .u16 (gi ls (i * 4 + 1)), .int .u16 (gi ls (i * 4 + 2)), .int .u16 (gi ls (i * 4 + 3))] false) := by rw [hB]; exact get_push_new
    have nB := kB.1
    have hbB := kB.get hb
    rw [W_loop]
    simp (disch := as_aux_lemma => first | omega | simp only [hDs] <;> omega | simp [isCell]) [hRs, takeMarks, resA, resAll, resOne, Value.cells, body30, t11, t12, show (i : Int) < m by omega, t10, idxSA_ok, hy, kints_4, storeB_cells, setRange_all]
    rw [← hB]
    simp (disch := as_aux_lemma => first | omega | simp only [hDs] <;> omega | simp [isCell]) [hRs, takeMarks, resA, resAll, resOne, Value.cells, idxAA_ok, gB, hbB, t2, ptrV, hlen, toIntA_int, wrId (n := gi ls (i * 4)) (by omega) (by omega), wrId (n := gi ls (i * 4 + 1)) (by omega) (by omega), wrId (n := gi ls (i * 4 + 2)) (by omega) (by omega), wrId (n := gi ls (i * 4 + 3)) (by omega) (by omega), wrId (n := gi ls (i * 4 + 1) * 10) (by omega) (by omega), binA_rem, show ¬ ((n : Int) = 0) by omega, wrId (n := gi ls (i * 4 + 1) * 10 + gi ls (i * 4 + 3)) (by omega) (by omega), show n ≠ 0 by omega]
    refine w25 (by omega) fun A1 k1 => ?_
    have g1 := k1.get gB
    simp (disch := as_aux_lemma => first | omega | simp only [hDs] <;> omega | simp [isCell]) [hRs, takeMarks, resA, resAll, resOne, Value.cells, g1, idxAA_ok, toIntA_int, wrId (n := gi ls (i * 4 + 3)) (by omega) (by omega), binA_rem, wrId (n := (gi ls (i * 4 + 2)).tmod 4000 + (gi ls (i * 4 + 3)).tmod 900) (by omega) (by omega)]
    refine w25 (by have := k1.1; omega) fun A2 k2 => ?_
    have kk := (kB.trans k1).trans k2
    obtain ⟨sv', A', e, hacc', hold', hn''⟩ := (hacc.mono kk.2).add (g := g) (bytes := 40) (new := ints (st1 n ls i)) (ro := false) (n := i) hg (by have := kk.1; omega) rfl (by decide) (ints_isCell _) (by rw [ints_length, stZ_len]) (by unfold room; omega)
    have e' : appendA g (A2.push (.cells [.int .i64 ((gi ls (i * 4)).tmod n), .int .i64 (gi ls (i * 4 + 1) * 10), .int .i64 (gi ls (i * 4 + 1) * 10 + gi ls (i * 4 + 3)), .int .i64 ((gi ls (i * 4 + 2)).tmod 4000), .int .i64 ((gi ls (i * 4 + 2)).tmod 4000 + (gi ls (i * 4 + 3)).tmod 900)] false)) 5 40 sv (.slice (some ⟨A2.n, 0, some 5⟩) 1 1) = some (sv', A') := e
    simp (disch := as_aux_lemma => first | omega | simp only [hDs] <;> omega | simp [isCell]) [hRs, takeMarks, resA, resAll, resOne, Value.cells, spn, fillA, setRange, slitA, t5, e', t12]
    have hk := kk.1
    refine ih (i + 1) _ A' sv' (by omega) (by omega) (fun x hx => by rw [hold' x (by omega), kk.2 x (by omega), hold x hx]) (by rw [stZ_succ, ints_append]; exact hacc') ?_ ?_ ?_ ?_ ?_
    · simp
    · simp [t2, ptrV]
    · simp [t10, hyv]
    · simp [t11]
    · simp [t12, wrId (n := (i : Int) + 1) (by omega) (by omega)]
theorem w30 {m n : Nat} {w h s : Int} {sl lv : Value} {ls : List Int} (hm : m < 1000000) (hn : 0 < n ∧ n < 1000000) (hg : g ≤ A.n) (hl : ∀ i, 0 ≤ gi ls i ∧ gi ls i ≤ 65535) (hlen : lenV sl = some (.int .i64 n)) (hr : RdS A 4 m (kints .u16 ls) lv)
    (hQ : ∀ A' sv, Ext' A A' → AccS A.n A' 5 (ints (stZ n ls m)) sv → V sv A') : WF AP KL g 30 [gridV w h s sl, lv] A V := by
  have hll := hr.len
  have kB := Ext'.push A (.cells [.int .i64 w, .int .i64 h, .int .i64 s, sl] false)
  rw [WF_body rfl (show AP 30 = some F30 from rfl)]
  simp (disch := as_aux_lemma => first | omega | simp only [hDs] <;> omega | simp [isCell]) [hRs, takeMarks, resA, resAll, resOne, Value.cells, gridV, hll]
  refine loop30 (A0 := A.push (.cells [.int .i64 w, .int .i64 h, .int .i64 s, sl] false)) (T0 := []) (b2 := A.n) (N := A.n + 1) (w := w) (h := h) (s := s) (sl := sl) (lv := lv) hm hn (by omega) (Nat.le_refl _) hl hlen get_push_new (by omega) (fun A' h => hr.mono fun x hx => by rw [h x (by omega), get_push_old hx]) (fun T' A' sv h1 h2 h3 t5 => ?_) m 0 _ _ (.slice none 0 0) (by omega) (Nat.le_refl _) (fun _ _ => rfl) AccS.nil ?_ ?_ ?_ ?_ ?_
  · simp (disch := as_aux_lemma => first | omega | simp only [hDs] <;> omega | simp [isCell]) [hRs, takeMarks, resA, resAll, resOne, Value.cells, t5]
    exact hQ _ _ ⟨by simp at h1; omega, fun x hx => by rw [h2 x (by omega), get_push_old hx]⟩ (h3.weaken (by omega))
  all_goals simp [ptrV]
theorem w50 {a b c d : Int} (h1 : c ≤ a) (h2 : b ≤ d) (h3 : a ≤ b) (hQ : ∀ A', Ext' A A' → V (.bool true) A') : WF AP KL g 50 [spn a b, spn c d] A V := by
  rw [WF_body rfl (show AP 50 = some F50 from rfl)]
  simp (disch := as_aux_lemma => first | omega | simp only [hDs] <;> omega | simp [isCell]) [hRs, takeMarks, resA, resAll, resOne, Value.cells, spn, h1, h2, h3]
  exact hQ _ ((Ext'.push _ _).trans (Ext'.push _ _))
theorem loop26 {A0 : Hp} {a b : List Int} {m : Nat} {va vb : Value} {T0 : List Value} (hm : m < 1000000) (ha : RdS A0 8 m (ints a) va) (hb : RdS A0 8 m (ints b) vb) (hin : ∀ c, c < m → ∀ r, (r = 0 ∨ r = 2 ∨ r = 4 ∨ r = 6) → gi b (c * 8 + r) ≤ gi a (c * 8 + r) ∧ gi a (c * 8 + r) ≤ gi a (c * 8 + r + 1) ∧ gi a (c * 8 + r + 1) ≤ gi b (c * 8 + r + 1))
    (hQ : ∀ T' A', Ext' A0 A' → Q (.exit 0) ⟨T', D, A'⟩) :
    ∀ (k i : Nat) (T : List Value) (A : Hp), i + k = m → Ext' A0 A → tget T 0 = va → tget T 1 = vb → tget T 12 = .int .i64 m → tget T 13 = .int .i64 i → W AP KL g rd (.loop body26) ⟨T, D, A⟩ Q := by
  intro k
  have hal : a.length = m * 8 := by have := ha.1; rwa [ints_length] at this
  have hbl : b.length = m * 8 := by have := hb.1; rwa [ints_length] at this
  induction k with
  | zero =>
    intro i T A hi kA t0 t1 t12 t13
    have : i = m := by omega
    subst this
    rw [W_loop]
    simp (disch := as_aux_lemma => first | omega | simp only [hDs] <;> omega | simp [isCell]) [hRs, takeMarks, resA, resAll, resOne, Value.cells, body26, t12, t13]
    exact hQ _ A kA
  | succ k ih =>
    intro i T A hi kA t0 t1 t12 t13
    obtain ⟨x, cx, rx, hxv, hx⟩ := (ha.mono kA.2).at (i := i) (by omega)
    obtain ⟨y, cy, ry, hyv, hy⟩ := (hb.mono kA.2).at (i := i) (by omega)
    have i0 := hin i (by omega) 0 (by omega)
    have i2 := hin i (by omega) 2 (by omega)
    have i4 := hin i (by omega) 4 (by omega)
    have i6 := hin i (by omega) 6 (by omega)
    rw [hxv] at t0
    rw [hyv] at t1
    rw [W_loop]
    simp (disch := as_aux_lemma => first | omega | simp only [hDs] <;> omega | simp [isCell]) [hRs, takeMarks, resA, resAll, resOne, Value.cells, body26, t12, t13, show (i : Int) < m by omega, t0, t1, idxSA_ok, hx, hy, ints_two]
    refine w50 i0.1 i0.2.2 i0.2.1 fun A1 k1 => ?_
    have hx1 := k1.get hx
    have hy1 := k1.get hy
    simp (disch := as_aux_lemma => first | omega | simp only [hDs] <;> omega | simp [isCell]) [hRs, takeMarks, resA, resAll, resOne, Value.cells, t0, t1, t13, show (i : Int) < m by omega, idxSA_ok, hx1, hy1, ints_two]
    refine w50 i2.1 i2.2.2 i2.2.1 fun A2 k2 => ?_
    have hx2 := k2.get hx1
    have hy2 := k2.get hy1
    simp (disch := as_aux_lemma => first | omega | simp only [hDs] <;> omega | simp [isCell]) [hRs, takeMarks, resA, resAll, resOne, Value.cells, t0, t1, t13, show (i : Int) < m by omega, idxSA_ok, hx2, hy2, ints_two]
    refine w50 i4.1 i4.2.2 i4.2.1 fun A3 k3 => ?_
    have hx3 := k3.get hx2
    have hy3 := k3.get hy2
    simp (disch := as_aux_lemma => first | omega | simp only [hDs] <;> omega | simp [isCell]) [hRs, takeMarks, resA, resAll, resOne, Value.cells, t0, t1, t13, show (i : Int) < m by omega, idxSA_ok, hx3, hy3, ints_two]
    refine w50 i6.1 i6.2.2 i6.2.1 fun A4 k4 => ?_
    simp (disch := as_aux_lemma => first | omega | simp only [hDs] <;> omega | simp [isCell]) [hRs, takeMarks, resA, resAll, resOne, Value.cells, t13]
    refine ih (i + 1) _ A4 (by omega) ((((kA.trans k1).trans k2).trans k3).trans k4) ?_ ?_ ?_ ?_
    · simp [t0, hxv]
    · simp [t1, hyv]
    · simp [t12]
    · simp [t13, wrId (n := (i : Int) + 1) (by omega) (by omega)]
theorem w26 {a b : List Int} {m : Nat} {va vb : Value} (hm : m < 1000000) (ha : RdS A 8 m (ints a) va) (hb : RdS A 8 m (ints b) vb) (hin : ∀ c, c < m → ∀ r, (r = 0 ∨ r = 2 ∨ r = 4 ∨ r = 6) → gi b (c * 8 + r) ≤ gi a (c * 8 + r) ∧ gi a (c * 8 + r) ≤ gi a (c * 8 + r + 1) ∧ gi a (c * 8 + r + 1) ≤ gi b (c * 8 + r + 1))
    (hQ : ∀ A', Ext' A A' → V (.bool true) A') : WF AP KL g 26 [va, vb] A V := by
  have hla := ha.len
  have hlb := hb.len
  rw [WF_body rfl (show AP 26 = some F26 from rfl)]
  simp (disch := as_aux_lemma => first | omega | simp only [hDs] <;> omega | simp [isCell]) [hRs, takeMarks, resA, resAll, resOne, Value.cells, hla, hlb]
  refine loop26 (T0 := []) hm ha hb hin (fun T' A' k => ?_) m 0 _ A (by omega) (Ext'.refl _) ?_ ?_ ?_ ?_
  · simp (disch := as_aux_lemma => first | omega | simp only [hDs] <;> omega | simp [isCell]) [hRs, takeMarks, resA, resAll, resOne, Value.cells]
    exact hQ A' k
  all_goals simp
end
end Go.Ab.Wave
namespace Go.Ab.Wave
open Go Go.Ab
theorem prep_of {P : Par} (h : POk P) : prepE P = 0 := by
  unfold prepE
  rw [if_pos h.chk, if_pos (inS_iff.2 h.sea)]
  unfold checkM
  rw [if_neg]
  have e1 := inS_iff.2 h.keep
  have e2 := inS_iff.2 h.land
  have e3 := inS_iff.2 h.loss
  simp [e1, e2, e3]
theorem check_of {w h s : Int} {l : List (Int × Int)} (hw : 1 ≤ w ∧ w ≤ 24) (hh : 1 ≤ h ∧ h ≤ 24) (hs : 1 ≤ s ∧ s ≤ 10000) (hl : (l.length : Int) = w * h) (hp : ∀ p ∈ l, p.1 ≤ p.2 ∧ -1200000 ≤ p.1 ∧ p.2 ≤ 1200000) : checkG w h s l = 0 := by
  have a2 := Int.mul_le_mul hw.2 hh.2 (by omega) (by omega)
  unfold checkG
  rw [if_neg (by simp [inB]; omega), if_neg, if_neg]
  · simp only [Bool.not_eq_true, List.any_eq_false]
    intro p hp'
    have := hp p hp'
    have e : wr .i64 (-1200000) = -1200000 := rfl
    simp [badSpan, okSpan, e]; omega
  · rw [← hl, wrId (n := (l.length : Int)) (by omega) (by omega)]; simp
theorem coast_ok {C : Coast} (h : C.Ok) (sl : Value) : POk (C.P sl) := by
  have wh := h.wh
  have h3 := h.sea
  have h4 := h.seaM
  have e3 := tmod_rng h4.1 (show (0 : Int) < 50 by decide)
  have ord : ∀ a b lo m : Int, 0 ≤ a → 0 ≤ b → 0 < m → lo ≤ ordLo a b lo m ∧ ordLo a b lo m ≤ ordHi a b lo m ∧ ordHi a b lo m ≤ lo + m - 1 := fun a b lo m ha hb hm => by
    have := tmod_rng ha hm
    have := tmod_rng hb hm
    unfold ordLo ordHi; omega
  have k := ord C.k0 C.k1 1 1024 h.k0.1 h.k1.1 (by decide)
  have l := ord C.l0 C.l1 10 2000 h.l0.1 h.l1.1 (by decide)
  have o := ord C.o0 C.o1 0 256 h.o0.1 h.o1.1 (by decide)
  refine ⟨check_of ⟨wh.1.1, by show C.w ≤ 24; omega⟩ ⟨wh.2.1.1, by show C.h ≤ 24; omega⟩ (by show 1 ≤ (500 : Int) ∧ (500 : Int) ≤ 10000; omega) (by show ((C.gnd C.n).length : Int) = _; rw [Coast.gnd_len]; exact wh.2.2.1) (fun p hp => ?_), ?_, ?_, ?_, ?_, ?_⟩
  · obtain ⟨i, _, rfl⟩ := List.mem_map.1 hp
    have := h.g i
    show C.gl i ≤ C.gl i + C.gm i ∧ _ ∧ C.gl i + C.gm i ≤ _
    omega
  · show -20000 ≤ C.sea ∧ C.sea ≤ C.sea + C.seaM.tmod 50 ∧ C.sea + C.seaM.tmod 50 ≤ 20000
    omega
  · show 1 ≤ ordLo C.k0 C.k1 1 1024 ∧ _ ∧ ordHi C.k0 C.k1 1 1024 ≤ 1024
    exact ⟨k.1, k.2.1, by omega⟩
  · show 10 ≤ ordLo C.l0 C.l1 10 2000 ∧ _ ∧ ordHi C.l0 C.l1 10 2000 ≤ 100000
    exact ⟨l.1, l.2.1, by omega⟩
  · show 0 ≤ ordLo C.o0 C.o1 0 256 ∧ _ ∧ ordHi C.o0 C.o1 0 256 ≤ 1000
    exact ⟨o.1, o.2.1, by omega⟩
  · show (C.gnd C.n).length ≤ 40
    rw [Coast.gnd_len]; omega
theorem stE_ok {P : Par} {zs : List Int} {n : Nat} (h : StartOk P zs n) : ∀ {k i : Nat}, i + k ≤ n → stE P zs i k = 0
  | 0, _, _ => rfl
  | k + 1, i, hi => by
    have c := h.cell i (by omega)
    have t := h.time i (by omega)
    have r := h.rise i (by omega)
    have hb : stBad P zs i = 0 := by
      unfold stBad
      rw [if_neg (by omega), if_pos ⟨inS_iff.2 t, inS_iff.2 r⟩]
    unfold stE
    rw [if_pos hb]
    exact stE_ok h (by omega)
theorem sprE_ok {P : Par} {zs : List Int} {n : Nat} (hP : POk P) (h : StartOk P zs n) (hn : n ≤ 512) : sprE P zs n = 0 := by
  unfold sprE
  rw [if_pos (prep_of hP), if_neg (by omega)]
  exact stE_ok h (by omega)
section
variable {P : Par} {zs : List Int} {n : Nat}
end
end Go.Ab.Wave
namespace Go.Ab.Wave
open Go Go.Ab
def fnN (r q : Nat) : Value := .func (.func 29) ⟨[]⟩ ⟨[.pointer (some ⟨r, 0, none⟩), .pointer (some ⟨q, 0, none⟩)]⟩
theorem mem_capsN {r q b : Nat} (h1 : b ≠ r) (h2 : b ≠ q) : (b ∈ capsOf (.func (.func 29) ⟨[]⟩ ⟨[.pointer (some ⟨r, 0, none⟩), .pointer (some ⟨q, 0, none⟩)]⟩)) = False := by
  simp [capsOf, h1, h2]
theorem onlyC_set {A : Hp} {r q : Nat} {b0 : ABlk} {b : Option ABlk} (h : A.get r = some b0) : OnlyC A (fnN r q) (A.set r b) := by
  intro x hx hn
  have hne : x ≠ r := fun h' => hn (by subst h'; simp [capsOf, fnN])
  rw [Hp.get_set h, if_neg hne]
structure Num (A : Hp) (r q : Nat) (wv : Value) (ws : List Int) (k : Int) : Prop where
  nr : r < A.n
  qr : q < r
  h9 : A.get r = some (.cells [.int .i64 k] false)
  h6 : A.get q = some (.cells [wv] false)
  rd : (wv = .slice none 0 0 ∧ ws = []) ∨ ∃ b c ro, wv = .slice (some ⟨b, 0, some 1⟩) ws.length c ∧ A.get b = some (.cells (kints .u8 ws) ro) ∧ b < r
theorem Num.len {A : Hp} {r q : Nat} {wv : Value} {ws : List Int} {k : Int} (h : Num A r q wv ws k) : lenV wv = some (.int .i64 ws.length) := by
  rcases h.rd with ⟨h1, h2⟩ | ⟨b, c, ro, h1, _⟩
  · rw [h1, h2]; rfl
  · rw [h1]; rfl
theorem Num.ext {A A' : Hp} {r q : Nat} {wv : Value} {ws : List Int} {k : Int} (h : Num A r q wv ws k) (e : Ext' A A') : Num A' r q wv ws k := by
  refine ⟨Nat.lt_of_lt_of_le h.nr e.1, h.qr, e.get h.h9, e.get h.h6, ?_⟩
  rcases h.rd with h | ⟨b, c, ro, h1, h2, h3⟩
  · exact .inl h
  · exact .inr ⟨b, c, ro, h1, e.get h2, h3⟩
theorem Num.step {A : Hp} {r q : Nat} {wv : Value} {ws : List Int} {k k' : Int} (h : Num A r q wv ws k) : Num (A.set r (some (.cells [.int .i64 k'] false))) r q wv ws k' := by
  have g1 : ∀ x, x ≠ r → (A.set r (some (.cells [.int .i64 k'] false))).get x = A.get x := fun x hx => by rw [Hp.get_set h.h9, if_neg hx]
  refine ⟨h.nr, h.qr, by rw [Hp.get_set h.h9, if_pos rfl], by rw [g1 q (Nat.ne_of_lt h.qr)]; exact h.h6, ?_⟩
  rcases h.rd with h | ⟨b, c, ro, h1, h2, h3⟩
  · exact .inl h
  · exact .inr ⟨b, c, ro, h1, by rw [g1 b (Nat.ne_of_lt h3)]; exact h2, h3⟩
theorem Num.low {A A' : Hp} {r q : Nat} {wv : Value} {ws : List Int} {k : Int} (h : Num A r q wv ws k) (hn : A.n ≤ A'.n) (e : ∀ x, x ≤ r → A'.get x = A.get x) : Num A' r q wv ws k := by
  have hq := h.qr
  refine ⟨Nat.lt_of_lt_of_le h.nr hn, hq, by rw [e r (Nat.le_refl _)]; exact h.h9, by rw [e q (by omega)]; exact h.h6, ?_⟩
  rcases h.rd with h | ⟨b, c, ro, h1, h2, h3⟩
  · exact .inl h
  · exact .inr ⟨b, c, ro, h1, by rw [e b (by omega)]; exact h2, h3⟩
structure But (r : Nat) (A A' : Hp) : Prop where
  n : A.n ≤ A'.n
  get : ∀ x, x < A.n → x ≠ r → A'.get x = A.get x
theorem But.refl {r : Nat} {A : Hp} : But r A A := ⟨Nat.le_refl _, fun _ _ _ => rfl⟩
theorem But.trans {r : Nat} {A B C : Hp} (h : But r A B) (k : But r B C) : But r A C := ⟨Nat.le_trans h.n k.n, fun x hx hr => (k.get x (Nat.lt_of_lt_of_le hx h.n) hr).trans (h.get x hx hr)⟩
theorem But.of_ext {r : Nat} {A A' : Hp} (h : Ext' A A') : But r A A' := ⟨h.1, fun x hx _ => h.2 x hx⟩
theorem But.at {r x : Nat} {A A' : Hp} {b : ABlk} (h : But r A A') (hb : A.get x = some b) (hr : x ≠ r) : A'.get x = some b := by rw [h.get x (Hp.lt_of_get hb) hr]; exact hb
theorem But.set {r : Nat} {A : Hp} {b0 : ABlk} {b : Option ABlk} (h : A.get r = some b0) : But r A (A.set r b) := ⟨Nat.le_refl _, fun x _ hr => by rw [Hp.get_set h, if_neg hr]⟩
section
variable {g : Nat} {D : List Nat} {rd : Option Nat} {Q : Ex → St → Prop} {A : Hp} {V : Value → Hp → Prop}
theorem w29 {r q : Nat} {k : Int} {wv : Value} {ws : List Int} (S : Num A r q wv ws k) (hk : 0 ≤ k ∧ k < 1000) (hl : ws.length ≤ 9223372036854775807) (hb : ∀ i, 0 ≤ gi ws i ∧ gi ws i ≤ 255) (hg : g ≤ r)
    (hQ : ∀ a A', 0 ≤ a ∧ a ≤ 255 → Num A' r q wv ws (k + 1) → A'.n = A.n → But r A A' → V (.int .u8 a) A') :
    WF AP KL g 29 [.pointer (some ⟨r, 0, none⟩), .pointer (some ⟨q, 0, none⟩)] A (fun v A' => OnlyC A (.func (.func 29) ⟨[]⟩ ⟨[.pointer (some ⟨r, 0, none⟩), .pointer (some ⟨q, 0, none⟩)]⟩) A' ∧ V v A') := by
  have h9 := S.h9
  have S' := S.step (k' := k + 1)
  have h6' := S'.h6
  have h9' := S'.h9
  have hn : (A.set r (some (.cells [.int .i64 (k + 1)] false))).n = A.n := rfl
  have hB := But.set (b := some (.cells [.int .i64 (k + 1)] false)) h9
  have hO := onlyC_set (q := q) (b := some (.cells [.int .i64 (k + 1)] false)) h9
  have hlen := S.len
  have ek : wr .i64 (k + 1) = k + 1 := wrId (by omega) (by omega)
  rw [WF_body rfl (show AP 29 = some F29 from rfl)]
  generalize hB0 : A.set r (some (.cells [.int .i64 (k + 1)] false)) = B at *
  by_cases h0 : ws.length = 0
  · simp (disch := as_aux_lemma => first | omega | simp only [hDs] <;> omega | simp [isCell]) [hRs, takeMarks, resA, resAll, resOne, Value.cells, h9, ek, setRange, storeB_cells, hg, hB0, h6', hlen, h0]
    exact ⟨hO, hQ 0 B (by omega) S' hn hB⟩
  · rcases S'.rd with ⟨_, h⟩ | ⟨b, c, ro, h1, h2, h3⟩
    · rw [h] at h0; exact absurd rfl h0
    · have hm : 0 ≤ (k + 1).tmod (ws.length : Int) ∧ (k + 1).tmod (ws.length : Int) < ws.length := tmod_rng (by omega) (by omega)
      obtain ⟨i, hi⟩ : ∃ i : Nat, (k + 1).tmod (ws.length : Int) = i := ⟨((k + 1).tmod (ws.length : Int)).toNat, by omega⟩
      rw [hi] at hm
      have hi' : i < ws.length := by omega
      subst h1
      have hne : ws ≠ [] := fun h => h0 (by rw [h]; rfl)
      simp (disch := as_aux_lemma => first | omega | simp only [hDs] <;> omega | simp [isCell]) [hRs, takeMarks, resA, resAll, resOne, Value.cells, h9, ek, setRange, storeB_cells, hg, hB0, h6', hlen, hne, show ¬ ((ws.length : Int) = 0) by omega, h9', binA_rem, hi, idxSA_ok, h2, kints_get hi']
      exact ⟨hO, hQ _ B (hb i) S' hn hB⟩
theorem w31 {lo hi a b : Int} {pt : Bool} (h : lo ≤ hi) (h1 : -1000000000000 ≤ lo) (h2 : hi ≤ 1000000000000) (ha : 0 ≤ a ∧ a ≤ 255) (hb : 0 ≤ b ∧ b ≤ 255) (hg : g ≤ A.n)
    (hQ : ∀ l u A', Ext' A A' → lo ≤ l → l ≤ u → u ≤ hi → V (spn l u) A') : WF AP KL g 31 [spn lo hi, .int .u8 a, .int .u8 b, .bool pt] A V := by
  have r1 := tmod_rng ha.1 (show (0 : Int) < hi - lo + 1 by omega)
  have e : ∀ (A1 : Hp) (y : ABlk), Ext' ((A.push (.cells [.int .i64 lo, .int .i64 hi] false)).push (.cells [.int .i64 0, .int .i64 0] false)) A1 → Ext' A (A1.set (A.n + 1) (some y)) := fun A1 y k1 => by
    have c8 : A1.get (A.n + 1) = some (.cells [.int .i64 0, .int .i64 0] false) := k1.get (get_push_eq (by simp))
    have n8 := Hp.lt_of_get c8
    refine ⟨by show A.n ≤ A1.n; omega, fun x hx => ?_⟩
    rw [get_set_ne n8 (by omega), k1.2 x (by simp; omega), get_push_old (by simp; omega), get_push_old hx]
  rw [WF_body rfl (show AP 31 = some F31 from rfl)]
  cases pt with
  | true =>
    simp (disch := as_aux_lemma => first | omega | simp only [hDs] <;> omega | simp [isCell]) [hRs, takeMarks, resA, resAll, resOne, Value.cells, spn, toIntA_int, binA_rem, wrId (n := a) (by omega) (by omega), wrId (n := hi - lo) (by omega) (by omega), wrId (n := hi - lo + 1) (by omega) (by omega), wrId (n := lo + a.tmod (hi - lo + 1)) (by omega) (by omega), show ¬ (hi - lo + 1 = 0) by omega]
    refine w25 (by simp; omega) fun A1 k1 => ?_
    have c8 : A1.get (A.n + 1) = some (.cells [.int .i64 0, .int .i64 0] false) := k1.get (get_push_eq (by simp))
    simp (disch := as_aux_lemma => first | omega | simp only [hDs] <;> omega | simp [isCell]) [hRs, takeMarks, resA, resAll, resOne, Value.cells, spn, c8, storeB_cells, setRange, get_set_same c8, show g ≤ A.n + 1 by omega]
    exact hQ _ _ _ (e A1 _ k1) (by omega) (Int.le_refl _) (by omega)
  | false =>
    have r2 := tmod_rng hb.1 (show (0 : Int) < hi - (lo + a.tmod (hi - lo + 1)) + 1 by omega)
    simp (disch := as_aux_lemma => first | omega | simp only [hDs] <;> omega | simp [isCell]) [hRs, takeMarks, resA, resAll, resOne, Value.cells, spn, toIntA_int, binA_rem, wrId (n := a) (by omega) (by omega), wrId (n := b) (by omega) (by omega), wrId (n := hi - lo) (by omega) (by omega), wrId (n := hi - lo + 1) (by omega) (by omega), wrId (n := lo + a.tmod (hi - lo + 1)) (by omega) (by omega), show ¬ (hi - lo + 1 = 0) by omega, wrId (n := hi - (lo + a.tmod (hi - lo + 1))) (by omega) (by omega), wrId (n := hi - (lo + a.tmod (hi - lo + 1)) + 1) (by omega) (by omega), show ¬ (hi - (lo + a.tmod (hi - lo + 1)) + 1 = 0) by omega, wrId (n := lo + a.tmod (hi - lo + 1) + b.tmod (hi - (lo + a.tmod (hi - lo + 1)) + 1)) (by omega) (by omega)]
    refine w25 (by simp; omega) fun A1 k1 => ?_
    have c8 : A1.get (A.n + 1) = some (.cells [.int .i64 0, .int .i64 0] false) := k1.get (get_push_eq (by simp))
    simp (disch := as_aux_lemma => first | omega | simp only [hDs] <;> omega | simp [isCell]) [hRs, takeMarks, resA, resAll, resOne, Value.cells, spn, c8, storeB_cells, setRange, get_set_same c8, show g ≤ A.n + 1 by omega]
    exact hQ _ _ _ (e A1 _ k1) (by omega) (by omega) (by omega)
theorem AccS.mid {N k : Nat} {A A' : Hp} {cs : List Value} {sv : Value} (h : AccS N A k cs sv) (hA : ∀ x, N ≤ x → x < A.n → A'.get x = A.get x) : AccS N A' k cs sv := by
  rcases h with h | ⟨b, n, h1, h2, h3, h4, h5⟩
  · exact .inl h
  · exact .inr ⟨b, n, h1, by rw [hA b h3 (Hp.lt_of_get h2)]; exact h2, h3, h4, h5⟩
def Nar (L G : List (Int × Int)) (i : Nat) : Prop := G.length = i ∧ ∀ j, j < i → gi (flat2 L) (j * 2) ≤ gi (flat2 G) (j * 2) ∧ gi (flat2 G) (j * 2) ≤ gi (flat2 G) (j * 2 + 1) ∧ gi (flat2 G) (j * 2 + 1) ≤ gi (flat2 L) (j * 2 + 1)
theorem Nar.nil {L : List (Int × Int)} : Nar L [] 0 := ⟨rfl, fun j h => by omega⟩
theorem flat2_snoc {G : List (Int × Int)} {p : Int × Int} : flat2 (G ++ [p]) = flat2 G ++ [p.1, p.2] := by simp [flat2]
theorem Nar.add {L G : List (Int × Int)} {i : Nat} {l u : Int} (h : Nar L G i) (h1 : gi (flat2 L) (i * 2) ≤ l) (h2 : l ≤ u) (h3 : u ≤ gi (flat2 L) (i * 2 + 1)) : Nar L (G ++ [(l, u)]) (i + 1) := by
  obtain ⟨hl, h⟩ := h
  have hfl : (flat2 G).length = i * 2 := by rw [flat2_length, hl]
  refine ⟨by simp [hl], fun j hj => ?_⟩
  rw [flat2_snoc]
  have e : ∀ k, k < i * 2 → gi (flat2 G ++ [l, u]) k = gi (flat2 G) k := fun k hk => by
    unfold gi
    simp only [List.getD_eq_getElem?_getD]
    rw [List.getElem?_append_left (by omega)]
  by_cases hji : j < i
  · rw [e _ (by omega), e _ (by omega)]; exact h j hji
  · have : j = i := by omega
    subst this
    have e0 : gi (flat2 G ++ [l, u]) (j * 2) = l := by
      unfold gi; simp only [List.getD_eq_getElem?_getD]; rw [List.getElem?_append_right (by omega)]; simp [hfl]
    have e1 : gi (flat2 G ++ [l, u]) (j * 2 + 1) = u := by
      unfold gi; simp only [List.getD_eq_getElem?_getD]; rw [List.getElem?_append_right (by omega)]; simp [hfl]
    rw [e0, e1]; exact ⟨h1, h2, h3⟩
end
end Go.Ab.Wave
namespace Go.Ab.Wave
open Go Go.Ab
section
variable {g : Nat} {D : List Nat} {rd : Option Nat} {Q : Ex → St → Prop} {A : Hp} {V : Value → Hp → Prop}
structure Bu2 (r y : Nat) (A A' : Hp) : Prop where
  n : A.n ≤ A'.n
  get : ∀ x, x < A.n → x ≠ r → x ≠ y → A'.get x = A.get x
theorem Bu2.refl {r y : Nat} {A : Hp} : Bu2 r y A A := ⟨Nat.le_refl _, fun _ _ _ _ => rfl⟩
theorem Bu2.trans {r y : Nat} {A B C : Hp} (h : Bu2 r y A B) (k : Bu2 r y B C) : Bu2 r y A C := ⟨Nat.le_trans h.n k.n, fun x hx hr hy => (k.get x (Nat.lt_of_lt_of_le hx h.n) hr hy).trans (h.get x hx hr hy)⟩
theorem Bu2.of_ext {r y : Nat} {A A' : Hp} (h : Ext' A A') : Bu2 r y A A' := ⟨h.1, fun x hx _ _ => h.2 x hx⟩
theorem Bu2.at {r y x : Nat} {A A' : Hp} {b : ABlk} (h : Bu2 r y A A') (hb : A.get x = some b) (hr : x ≠ r) (hy : x ≠ y) : A'.get x = some b := by rw [h.get x (Hp.lt_of_get hb) hr hy]; exact hb
structure Ws (ws : List Int) : Prop where
  len : ws.length ≤ 9223372036854775807
  rng : ∀ i, 0 ≤ gi ws i ∧ gi ws i ≤ 255
theorem loop7g {B0 : Hp} {T0 : List Value} {r q y : Nat} {wv sl : Value} {ws : List Int} {L : List (Int × Int)} {w h s : Int} {pt : Bool} (hL : ∀ j, j < L.length → gi (flat2 L) (j * 2) ≤ gi (flat2 L) (j * 2 + 1))
    (hb : ∀ j, -1000000000 ≤ gi (flat2 L) j ∧ gi (flat2 L) j ≤ 1000000000) (hlen : L.length ≤ 100) (hws : Ws ws) (hrow : ∀ A, Bu2 r y B0 A → RdS A 2 L.length (ints (flat2 L)) sl) (hg : g ≤ r) (hry : r < y) (hy : y < B0.n)
    (hQ : ∀ T' A' sv G, Bu2 r y B0 A' → Num A' r q wv ws (2 * (L.length : Int)) → A'.get y = some (.cells [.int .i64 w, .int .i64 h, .int .i64 s, sv] false) → AccS B0.n A' 2 (ints (flat2 G)) sv → Nar L G L.length → (∀ j, j < 16 → tget T' j = tget T0 j) → Q (.exit 0) ⟨T', D, A'⟩) :
    ∀ (k i : Nat) (T : List Value) (A : Hp) (sv : Value) (G : List (Int × Int)), i + k = L.length → Bu2 r y B0 A → Num A r q wv ws (2 * (i : Int)) → A.get y = some (.cells [.int .i64 w, .int .i64 h, .int .i64 s, sv] false) → AccS B0.n A 2 (ints (flat2 G)) sv → Nar L G i → (∀ j, j < 16 → tget T j = tget T0 j) →
      tget T0 3 = .bool pt → tget T0 10 = fnN r q → tget T0 15 = ptrV y → tget T 43 = sl → tget T 44 = .int .i64 L.length → tget T 45 = .int .i64 i → W AP KL g rd (.loop body7g) ⟨T, D, A⟩ Q := by
  intro k
  induction k with
  | zero =>
    intro i T A sv G hi hB S h15 acc nar hT t3' t10' t15' t43 t44 t45
    have : i = L.length := by omega
    subst this
    rw [W_loop]
    simp (disch := as_aux_lemma => first | omega | simp only [hDs] <;> omega | simp [isCell]) [hRs, takeMarks, resA, resAll, resOne, Value.cells, body7g, t44, t45]
    refine hQ _ A sv G hB S h15 acc nar fun j hj => ?_
    simp only [tget_tset]
    rw [if_neg (by omega)]
    exact hT j hj
  | succ k ih =>
    intro i T A sv G hi hB S h15 acc nar hT t3' t10' t15' t43 t44 t45
    have t3 := (hT 3 (by omega)).trans t3'
    have t10 := (hT 10 (by omega)).trans t10'
    have t15 := (hT 15 (by omega)).trans t15'
    unfold fnN at t10
    unfold ptrV at t15
    obtain ⟨x, cx, rx, hxv, hx⟩ := (hrow A hB).at (i := i) (by omega)
    have nx := Hp.lt_of_get hx
    have ny := Hp.lt_of_get h15
    have hqr := S.qr
    have hr := S.nr
    have hli := hL i (by omega)
    have hb0 := hb (i * 2)
    have hb1 := hb (i * 2 + 1)
    have hBn := hB.n
    rw [hxv] at t43
    have fl : (flat2 L).length = L.length * 2 := flat2_length L
    rw [W_loop]
    simp (disch := as_aux_lemma => first | omega | simp only [hDs] <;> omega | simp [isCell]) [hRs, takeMarks, resA, resAll, resOne, Value.cells, body7g, t3, t10, t15, t43, t44, t45, show (i : Int) < L.length by omega, idxSA_ok, hx, ints_two, h15, apartA, mem_capsN, storeB_cells, setRange, set_push_eq]
    refine w29 (S.ext (Ext'.push _ _)) (by omega) hws.len hws.rng hg fun a A1 ha S1 n1 bt1 => ?_
    refine w29 S1 (by omega) hws.len hws.rng hg fun b A2 hb2 S2 n2 bt2 => ?_
    refine w31 hli (by omega) (by omega) ha hb2 (Nat.le_refl _) fun l u A3 k3 hl1 hl2 hl3 => ?_
    have n0 : A1.n = A.n + 1 := n1
    have n3 := k3.1
    have hA3 : ∀ x, x < A.n → x ≠ r → A3.get x = A.get x := fun x hx hxr => by
      rw [k3.2 x (by omega), bt2.get x (by omega) hxr, bt1.get x (by show x < A.n + 1; omega) hxr, get_push_old hx]
    have acc3 := AccS.mid acc (A' := A3) fun x h1 h2 => hA3 x h2 (by omega)
    obtain ⟨sv', A4, e, acc4, hold4, n4⟩ := acc3.add (g := g) (bytes := 16) (new := [.int .i64 l, .int .i64 u]) (ro := false) (n := i) (by omega) (by omega) rfl (by decide) rfl (by rw [ints_length, flat2_length, nar.1]) (by unfold room; omega)
    obtain ⟨sp, sm, sc, rfl⟩ := acc4.isSlice
    have g4 : A4.get y = some (.cells [.int .i64 w, .int .i64 h, .int .i64 s, sv] false) := by rw [hold4 y hy, hA3 y ny (by omega)]; exact h15
    have l4 := Hp.lt_of_get g4
    simp (disch := as_aux_lemma => first | omega | simp only [hDs] <;> omega | simp [isCell]) [hRs, takeMarks, resA, resAll, resOne, Value.cells, spn, t15, t45, fillA, setRange_all, setRange, storeB_cells, slitA, e, g4, wrId (n := (i : Int) + 1) (by omega) (by omega)]
    have S3 : Num (A4.set y (some (.cells [.int .i64 w, .int .i64 h, .int .i64 s, .slice sp sm sc] false))) r q wv ws (2 * ((i + 1 : Nat) : Int)) := by
      have e2 : 2 * ((i + 1 : Nat) : Int) = 2 * (i : Int) + 1 + 1 := by omega
      rw [e2]
      refine (S2.ext k3).low (by show A3.n ≤ A4.n; omega) fun z hz => ?_
      rw [get_set_ne l4 (by omega), hold4 z (by omega)]
    refine ih (i + 1) _ _ (.slice sp sm sc) (G ++ [(l, u)]) (by omega) ⟨by show B0.n ≤ A4.n; omega, fun z hz hzr hzy => ?_⟩ S3 (get_set_same g4) ?_ (nar.add hl1 hl2 hl3) (fun j hj => ?_) t3' t10' t15' ?_ ?_ ?_
    · rw [get_set_ne l4 hzy, hold4 z hz, hA3 z (by omega) hzr, hB.get z hz hzr hzy]
    · have ef : ints (flat2 (G ++ [(l, u)])) = ints (flat2 G) ++ [.int .i64 l, .int .i64 u] := by rw [flat2_snoc]; simp [ints]
      rw [ef]
      exact AccS.set_low acc4 hy (by omega)
    · simp only [tget_tset]
      repeat rw [if_neg (by omega)]
      exact hT j hj
    · simp [t43, hxv]
    · simp [t44]
    · simp
end
end Go.Ab.Wave
