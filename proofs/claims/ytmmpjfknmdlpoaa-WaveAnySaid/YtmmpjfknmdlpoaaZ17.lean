/- Wave: the loop of joins. -/
import Derived.Test.YtmmpjfknmdlpoaaZ16
set_option linter.unusedSimpArgs false
set_option linter.unusedVariables false
set_option linter.unusedSectionVars false
namespace Go.Ab.Wave
open Go Go.Ab
structure SheetFin (P : Par) (zs : List Int) (n : Nat) : Prop where
  arr : (PA P).FinV (arr0 P zs n) (arrF P zs n)
  str : (PS P).FinV (str0 P zs n) (strF P zs n)
  srf : (PU P).Fin (srfK P (arrF P zs n) (strF P zs n) P.l.length) (List.replicate P.l.length (-Never)) (srfF P (arrF P zs n) (strF P zs n)).1 (srfF P (arrF P zs n) (strF P zs n)).2
  lnd : (PL P (srfF P (arrF P zs n) (strF P zs n)).1).FinV (arrF P zs n) (arrL P (arrF P zs n) (strF P zs n))
theorem arr0_sea {P : Par} {zs : List Int} {n : Nat} (hz : StartOk P zs n) : ∀ k, k ≤ n → ∀ c, c < P.l.length → gi (arr0 P zs k) c < Never → 1 ≤ P.dep c := by
  intro k
  induction k with
  | zero =>
    intro _ c hc h
    have : gi (arr0 P zs 0) c = Never := gi_replicate hc
    omega
  | succ k ih =>
    intro hk c hc h
    have e : arr0 P zs (k + 1) = stA P zs (arr0 P zs k) k := by unfold arr0; rw [List.range_succ, List.foldl_append]; rfl
    have hl := (arr0_ok hz k (by omega)).1
    have hcl : stC zs k < P.l.length := by have := hz.cell k (by omega); unfold stC; omega
    rw [e] at h
    unfold stA at h
    split at h
    · rename_i hd
      rw [gi_set (by omega)] at h
      split at h
      · rename_i hcc; rw [hcc]; exact hd
      · exact ih (by omega) c hc h
    · exact ih (by omega) c hc h
theorem arr_sea {P : Par} {zs : List Int} {n : Nat} (hz : StartOk P zs n) {b : Nat} {v : Int} (h : (PA P).Der (arr0 P zs n) b v) : v < Never → 1 ≤ P.dep b := by
  intro hv
  cases h with
  | init hb => exact arr0_sea hz n (Nat.le_refl _) b hb hv
  | step ha _ hb hs => exact (open_dep (spA_true hs).1).2
theorem sailOk {P : Par} {zs : List Int} {n : Nat} (hP : POk P) (hz : StartOk P zs n) (h1 : (PA P).FinV (arr0 P zs n) (arrF P zs n)) (h2 : (PS P).FinV (str0 P zs n) (strF P zs n)) : SailOk P (arrF P zs n) (strF P zs n) := by
  refine ⟨fun c hc => ⟨h1.mid.val c hc, fun hN => ⟨?_, arr_sea hz (h1.mid.der c hc) hN⟩⟩, fun c hc => h2.mid.val c hc⟩
  have hg : GA 1000000000 32000000 (arrF P zs n) := h1.mid.glob
  have hl : (arrF P zs n).length = P.l.length := h1.mid.nv
  have := hg c (by omega) hN
  have hf := fin_le (arrF P zs n)
  have hs := hP.small
  have hm : (fin (arrF P zs n) : Int) * 32000000 ≤ 40 * 32000000 := Int.mul_le_mul_of_nonneg_right (by omega) (by omega)
  omega
section
variable {g : Nat} {A : Hp} {V : Value → Hp → Prop}
theorem w61 (hg : g ≤ A.n) (hQ : ∀ A', Ext' A A' → V (endV false) A') : WF AP KL g 61 [] A V := by
  rw [WF_body rfl (show AP 61 = some F61 from rfl)]
  simp (disch := as_aux_lemma => first | omega | simp only [hDs] <;> omega | simp [isCell]) [hRs, takeMarks, resA, resAll, resOne, Value.cells, storeB_cells, setRange_all, fillA, setRange]
  exact hQ _ (Ext'.push _ _)
theorem w62 (hg : g ≤ A.n) (hQ : ∀ A', Ext' A A' → V (endV true) A') : WF AP KL g 62 [] A V := by
  rw [WF_body rfl (show AP 62 = some F62 from rfl)]
  simp (disch := as_aux_lemma => first | omega | simp only [hDs] <;> omega | simp [isCell]) [hRs, takeMarks, resA, resAll, resOne, Value.cells, storeB_cells, setRange_all, fillA, setRange]
  exact hQ _ (Ext'.push _ _)
theorem w60 {P : Par} {zs : List Int} {n : Nat} {sls : Value} (hP : POk P) (hgr : groundOf A P.sl = some P.l) (hz : StartOk P zs n) (hn : n < 1000000) (hr : RdLow A 5 n A.n (ints zs) sls) (hg : g ≤ A.n)
    (hQ : ∀ A' X ra rs ru rl, Ext' A A' → A.n ≤ ra → Sheet A' P X ra rs ru rl (arrL P (arrF P zs n) (strF P zs n)) (strF P zs n) (srfF P (arrF P zs n) (strF P zs n)).1 (srfF P (arrF P zs n) (strF P zs n)).2 → SheetFin P zs n → V (ptrV X) A') :
    WF AP KL g 60 [endV P.up, gridV P.w P.h P.s P.sl, spn P.slo P.shi, modelV P.k0 P.k1 P.l0 P.l1 P.o0 P.o1, sls] A V := by
  have hsm := hP.small
  have hpos := hP.pos
  have hlen : lenV P.sl = some (.int .i64 P.l.length) := by
    rcases (groundOf_cases hgr).2 with ⟨h1, h2⟩ | ⟨x, cap, ro, h1, _⟩
    · rw [h1, h2]; rfl
    · rw [h1]; rfl
  rw [WF_body rfl (show AP 60 = some F60 from rfl)]
  simp (disch := as_aux_lemma => first | omega | simp only [hDs] <;> omega | simp [isCell]) [hRs, takeMarks, resA, resAll, resOne, Value.cells, endV, gridV, spn, modelV, hlen, J, fillA, setRange, slitA]
  obtain ⟨B1, hB1⟩ : ∃ B1, B1 = ((((A.push (.cells [rF P.up, dF P.up, rF !P.up, .bool P.up] false)).push (.cells [.int .i64 P.w, .int .i64 P.h, .int .i64 P.s, P.sl] false)).push (.cells [.int .i64 P.slo, .int .i64 P.shi] false)).push (.cells [.int .i64 P.k0, .int .i64 P.k1, .int .i64 P.l0, .int .i64 P.l1, .int .i64 P.o0, .int .i64 P.o1] false)).push (.cells [.int .i64 Never] false) := ⟨_, rfl⟩
  have hB1' := hB1
  unfold Never at hB1'
  have kB1 : Ext' A B1 := by rw [hB1]; exact ((((Ext'.push _ _).trans (Ext'.push _ _)).trans (Ext'.push _ _)).trans (Ext'.push _ _)).trans (Ext'.push _ _)
  have nB1 : B1.n = A.n + 5 := by rw [hB1]; rfl
  have gB1 : B1.get (A.n + 4) = some (.cells [.int .i64 Never] false) := by rw [hB1]; exact get_push_new
  rw [← hB1']
  refine w83 (b := A.n + 4) (n := P.l.length) (v := Never) hpos hsm gB1 (by omega) fun C1 kC1 nC1 gC1 => ?_
  simp (disch := as_aux_lemma => first | omega | simp only [hDs] <;> omega | simp [isCell]) [hRs, takeMarks, resA, resAll, resOne, Value.cells, makeS_ok (show P.l.length < 1000000 by omega), rowS1, fillA, setRange, slitA]
  obtain ⟨B2, hB2⟩ : ∃ B2, B2 = (C1.push (.cells (ints (List.replicate P.l.length 0)) false)).push (.cells [.int .i64 (-Never)] false) := ⟨_, rfl⟩
  have hB2' := hB2
  unfold Never at hB2'
  have kB2 : Ext' C1 B2 := by rw [hB2]; exact (Ext'.push _ _).trans (Ext'.push _ _)
  have nB2 : B2.n = C1.n + 2 := by rw [hB2]; rfl
  have gB2 : B2.get (C1.n + 1) = some (.cells [.int .i64 (-Never)] false) := by rw [hB2]; exact get_push_new
  have gS2 : B2.get C1.n = some (.cells (ints (List.replicate P.l.length 0)) false) := by rw [hB2]; exact push2_a
  rw [← hB2']
  refine w83 (b := C1.n + 1) (n := P.l.length) (v := -Never) hpos hsm gB2 (by omega) fun C2 kC2 nC2 gC2 => ?_
  simp (disch := as_aux_lemma => first | omega | simp only [hDs] <;> omega | simp [isCell]) [hRs, takeMarks, resA, resAll, resOne, Value.cells, fillA, setRange, slitA, rowS1]
  obtain ⟨B3, hB3⟩ : ∃ B3, B3 = C2.push (.cells [.int .i64 (-Never)] false) := ⟨_, rfl⟩
  have hB3' := hB3
  unfold Never at hB3'
  have kB3 : Ext' C2 B3 := by rw [hB3]; exact Ext'.push _ _
  have nB3 : B3.n = C2.n + 1 := by rw [hB3]; rfl
  have gB3 : B3.get C2.n = some (.cells [.int .i64 (-Never)] false) := by rw [hB3]; exact get_push_new
  rw [← hB3']
  refine w83 (b := C2.n) (n := P.l.length) (v := -Never) hpos hsm gB3 (by omega) fun C3 kC3 nC3 gC3 => ?_
  simp (disch := as_aux_lemma => first | omega | simp only [hDs] <;> omega | simp [isCell]) [hRs, takeMarks, resA, resAll, resOne, Value.cells, fillA, setRange, rowS1]
  obtain ⟨D, hD⟩ : ∃ D, D = C3.push (.cells (shCells P B1.n C1.n B2.n B3.n) false) := ⟨_, rfl⟩
  have hD' := hD
  simp only [shCells, rowS1] at hD'
  rw [← hD']
  have kD : Ext' C3 D := by rw [hD]; exact Ext'.push _ _
  have gD : D.get C3.n = some (.cells (shCells P B1.n C1.n B2.n B3.n) false) := by rw [hD]; exact get_push_new
  have kA : Ext' A D := kB1.trans (kC1.trans (kB2.trans (kC2.trans (kB3.trans (kC3.trans kD)))))
  have hSh : Sheet D P C3.n B1.n C1.n B2.n B3.n (List.replicate P.l.length Never) (List.replicate P.l.length 0) (List.replicate P.l.length (-Never)) (List.replicate P.l.length (-Never)) := by
    refine ⟨gD, kD.get (kC3.get (kB3.get (kC2.get (kB2.get gC1)))), kD.get (kC3.get (kB3.get (kC2.get gS2))), kD.get (kC3.get (kB3.get gC2)), kD.get gC3, by simp, by simp, by simp, by simp, groundOf_mono hgr kA.2, by omega, fun x o k n' c e => ?_⟩
    rcases (groundOf_cases hgr).2 with ⟨h1, h2⟩ | ⟨x', cap, ro, h1, h2⟩
    · rw [h1] at e; cases e
    · rw [h1] at e
      cases e
      have := Hp.lt_of_get h2
      omega
  have hr' : RdLow D 5 n B1.n (ints zs) sls := by
    obtain ⟨h0, h | ⟨x, c, ro, h1, h2, h3⟩⟩ := hr
    · exact ⟨h0, .inl h⟩
    · exact ⟨h0, .inr ⟨x, c, ro, h1, kA.get h2, by omega⟩⟩
  refine w84 hSh hP hz hn (by omega) hr' fun E kE hE hA hS => ?_
  simp (disch := as_aux_lemma => first | omega | simp only [hDs] <;> omega | simp [isCell]) [hRs, takeMarks, resA, resAll, resOne, Value.cells]
  have hO := sailOk hP hz hA hS
  refine w85 hE hP hO (by omega) fun F kF hF hU hL => ?_
  simp (disch := as_aux_lemma => first | omega | simp only [hDs] <;> omega | simp [isCell]) [hRs, takeMarks, resA, resAll, resOne, Value.cells]
  have kEF := kE.trans kF
  refine hQ F C3.n B1.n C1.n B2.n B3.n ⟨by have := kEF.1; have := kA.1; omega, fun x hx => ?_⟩ (by omega) hF ⟨hA, hS, hU, hL⟩
  rw [kEF.2 x (by have := kA.1; omega) (by unfold KP; omega), kA.2 x hx]
end
end Go.Ab.Wave
namespace Go.Ab.Wave
open Go Go.Ab
section
variable {A : Hp} {g x o : Nat} {pre post : List Int} {a0 a1 a2 a3 a4 a5 a6 a7 v v' : Int}
def row8 (pre : List Int) (a0 a1 a2 a3 a4 a5 a6 a7 : Int) (post : List Int) : List Int := pre ++ (a0 :: a1 :: a2 :: a3 :: a4 :: a5 :: a6 :: a7 :: post)
theorem gi_pre {j : Nat} {l : List Int} : gi (pre ++ l) (pre.length + j) = gi l j := by
  unfold gi
  rw [List.getD_eq_getElem?_getD, List.getD_eq_getElem?_getD, List.getElem?_append_right (by omega), show pre.length + j - pre.length = j by omega]
theorem set_pre {j : Nat} {l : List Int} : (pre ++ l).set (pre.length + j) v = pre ++ l.set j v := by
  rw [List.set_append]
  rw [if_neg (by omega)]
  congr 2
  omega
theorem row8_len : (row8 pre a0 a1 a2 a3 a4 a5 a6 a7 post).length = pre.length + 8 + post.length := by simp [row8]; omega
theorem rowGet2 (h : o ≤ pre.length + 2 ∧ pre.length + 2 ≤ o) : cellAt (ints (row8 pre a0 a1 a2 a3 a4 a5 a6 a7 post)) o = some (.int .i64 a2) := by
  rw [ints_get (by rw [row8_len]; omega), show o = pre.length + 2 by omega]; unfold row8; rw [gi_pre]; rfl
theorem rowGet3 (h : o ≤ pre.length + 3 ∧ pre.length + 3 ≤ o) : cellAt (ints (row8 pre a0 a1 a2 a3 a4 a5 a6 a7 post)) o = some (.int .i64 a3) := by
  rw [ints_get (by rw [row8_len]; omega), show o = pre.length + 3 by omega]; unfold row8; rw [gi_pre]; rfl
theorem rowGet4 (h : o ≤ pre.length + 4 ∧ pre.length + 4 ≤ o) : cellAt (ints (row8 pre a0 a1 a2 a3 a4 a5 a6 a7 post)) o = some (.int .i64 a4) := by
  rw [ints_get (by rw [row8_len]; omega), show o = pre.length + 4 by omega]; unfold row8; rw [gi_pre]; rfl
theorem rowGet5 (h : o ≤ pre.length + 5 ∧ pre.length + 5 ≤ o) : cellAt (ints (row8 pre a0 a1 a2 a3 a4 a5 a6 a7 post)) o = some (.int .i64 a5) := by
  rw [ints_get (by rw [row8_len]; omega), show o = pre.length + 5 by omega]; unfold row8; rw [gi_pre]; rfl
theorem rowGet7 (h : o ≤ pre.length + 7 ∧ pre.length + 7 ≤ o) : cellAt (ints (row8 pre a0 a1 a2 a3 a4 a5 a6 a7 post)) o = some (.int .i64 a7) := by
  rw [ints_get (by rw [row8_len]; omega), show o = pre.length + 7 by omega]; unfold row8; rw [gi_pre]; rfl
theorem rowPut2 (hg : g ≤ x) (h : o ≤ pre.length + 2 ∧ pre.length + 2 ≤ o) : storeB (some (.cells (ints (row8 pre a0 a1 a2 a3 a4 a5 a6 a7 post)) false)) g A x o [.int .i64 v] 1 = some (undef, A.set x (some (.cells (ints (row8 pre a0 a1 v a3 a4 a5 a6 a7 post)) false))) := by
  rw [storeB_int (by rw [row8_len]; omega) hg, show o = pre.length + 2 by omega]; unfold row8; rw [set_pre]; rfl
theorem rowPut3 (hg : g ≤ x) (h : o ≤ pre.length + 3 ∧ pre.length + 3 ≤ o) : storeB (some (.cells (ints (row8 pre a0 a1 a2 a3 a4 a5 a6 a7 post)) false)) g A x o [.int .i64 v] 1 = some (undef, A.set x (some (.cells (ints (row8 pre a0 a1 a2 v a4 a5 a6 a7 post)) false))) := by
  rw [storeB_int (by rw [row8_len]; omega) hg, show o = pre.length + 3 by omega]; unfold row8; rw [set_pre]; rfl
theorem rowPut4 (hg : g ≤ x) (h : o ≤ pre.length + 4 ∧ pre.length + 4 ≤ o) : storeB (some (.cells (ints (row8 pre a0 a1 a2 a3 a4 a5 a6 a7 post)) false)) g A x o [.int .i64 v] 1 = some (undef, A.set x (some (.cells (ints (row8 pre a0 a1 a2 a3 v a5 a6 a7 post)) false))) := by
  rw [storeB_int (by rw [row8_len]; omega) hg, show o = pre.length + 4 by omega]; unfold row8; rw [set_pre]; rfl
theorem rowPut5 (hg : g ≤ x) (h : o ≤ pre.length + 5 ∧ pre.length + 5 ≤ o) : storeB (some (.cells (ints (row8 pre a0 a1 a2 a3 a4 a5 a6 a7 post)) false)) g A x o [.int .i64 v] 1 = some (undef, A.set x (some (.cells (ints (row8 pre a0 a1 a2 a3 a4 v a6 a7 post)) false))) := by
  rw [storeB_int (by rw [row8_len]; omega) hg, show o = pre.length + 5 by omega]; unfold row8; rw [set_pre]; rfl
theorem rowPut6 (hg : g ≤ x) (h : o ≤ pre.length + 6 ∧ pre.length + 6 ≤ o) : storeB (some (.cells (ints (row8 pre a0 a1 a2 a3 a4 a5 a6 a7 post)) false)) g A x o [.int .i64 v] 1 = some (undef, A.set x (some (.cells (ints (row8 pre a0 a1 a2 a3 a4 a5 v a7 post)) false))) := by
  rw [storeB_int (by rw [row8_len]; omega) hg, show o = pre.length + 6 by omega]; unfold row8; rw [set_pre]; rfl
theorem rowPut7 (hg : g ≤ x) (h : o ≤ pre.length + 7 ∧ pre.length + 7 ≤ o) : storeB (some (.cells (ints (row8 pre a0 a1 a2 a3 a4 a5 a6 a7 post)) false)) g A x o [.int .i64 v] 1 = some (undef, A.set x (some (.cells (ints (row8 pre a0 a1 a2 a3 a4 a5 a6 v post)) false))) := by
  rw [storeB_int (by rw [row8_len]; omega) hg, show o = pre.length + 7 by omega]; unfold row8; rw [set_pre]; rfl
theorem rowPut01 (hg : g ≤ x) (h : o ≤ pre.length ∧ pre.length ≤ o) : storeB (some (.cells (ints (row8 pre a0 a1 a2 a3 a4 a5 a6 a7 post)) false)) g A x o [.int .i64 v, .int .i64 v'] 2 = some (undef, A.set x (some (.cells (ints (row8 pre v v' a2 a3 a4 a5 a6 a7 post)) false))) := by
  have e : o = pre.length := by omega
  subst e
  have := storeB_cells (A := A) (g := g) (k := x) (o := pre.length) (size := 2) (cs := ints (row8 pre a0 a1 a2 a3 a4 a5 a6 a7 post)) (vs := [.int .i64 v, .int .i64 v']) rfl hg (by rw [ints_length, row8_len]; omega) rfl
  rw [this]
  congr 4
  unfold setRange row8 ints
  simp [List.map_append, List.drop_append]
theorem set_set {b b' : Option ABlk} : (A.set x b).set x b' = A.set x b' := by
  unfold Hp.set; simp
end
variable {P : Par} {ar st : List Int}
theorem POk.rise' (hP : POk P) {c : Nat} (hc : c < P.l.length) (h : 1 ≤ P.under c) (hst : 0 ≤ gi st c ∧ gi st c ≤ 200000000) : 0 ≤ P.rise st c ∧ P.rise st c ≤ 196000 := by
  have hl := hP.lst hc
  have hu2 : P.under c ≤ 1220000 := by unfold Par.under; split <;> omega
  obtain ⟨_, f1, f2⟩ := fourth_bounds (b := !P.up) h hu2
  obtain ⟨b1, b2⟩ := dv_bounds (b := P.up) hst.1 (show 0 < fourthE (!P.up) (P.under c) by omega)
  refine ⟨b1, ?_⟩
  have := Int.mul_le_mul_of_nonneg_left (show (1024 : Int) ≤ fourthE (!P.up) (P.under c) by omega) b1
  unfold Par.rise
  omega
theorem surf_der (hP : POk P) (hO : SailOk P ar st) {b : Nat} {v : Int} (h : (PU P).Der (srfK P ar st P.l.length) b v) : SurfV v := by
  induction h with
  | init hb => exact srf_ok hP hO hb
  | @step a b v ha _ hb hs ih => exact .inr (spU_val (P := P) (a := a) (b := b) (v := v) hP (nb_lt (P := P) (a := a) (b := b) hP hb) ih hs)
theorem surf_above (hP : POk P) (hO : SailOk P ar st) {b : Nat} {v : Int} (h : (PU P).Der (srfK P ar st P.l.length) b v) (hv : v ≠ -Never) (hd : ¬ 1 ≤ P.dep b) : agE P.up (P.glo b) (P.ghi b) < v := by
  cases h with
  | init hb =>
    have hb' : b < P.l.length := hb
    rw [srfK_get hb'] at hv
    split at hv
    · rename_i hc; exact absurd ((hO.ar b hb').2 hc.2).2 hd
    · exact absurd rfl hv
  | @step a _ w ha _ hb hs => exact (spU_true (P := P) (a := a) (b := b) (v := w) hs).2.2
theorem land_above (hP : POk P) (hO : SailOk P ar st) {vs la : List Int} (h : (PU P).Fin (srfK P ar st P.l.length) (List.replicate P.l.length (-Never)) vs la) {b : Nat} (hb : b < P.l.length) (hn : gi la b ≠ -Never) :
    agE P.up (P.glo b) (P.ghi b) < gi la b ∧ -1200000 ≤ gi la b ∧ gi la b ≤ 200020000 := by
  rcases h.mid.land b hb with e | ⟨a, v, ha, hd, hnb, hs, e⟩
  · rw [gi_replicate hb] at e; exact absurd e hn
  · rw [e]
    exact ⟨(spU_true (P := P) (a := a) (b := b) (v := v) hs).2.2, spU_val (P := P) (a := a) (b := b) (v := v) hP hb (surf_der hP hO hd) hs⟩
end Go.Ab.Wave
namespace Go.Ab.Wave
open Go Go.Ab
def pLo : ACode := (.block 2
 (.seq
 (.ops [
oM 76 9,
oM 77 12,
oA 78 63 [.t 76, .t 77] false,
oM 75 78])
 (.cond (.t 75)
 (.seq
 (.ops [
oM 79 9,
oM 80 12,
oA 81 64 [.t 79, .t 80] false,
oM 15 81])
 (.seq
 (.ops [
oM 82 14,
oM 83 14,
oM 84 15,
oF 85 5 0,
oL 86 85,
oM 87 15,
oB 88 .add 86 87,
oP 89 (.nilCheck (.t 82)),
oF 90 89 2,
oF 91 90 0,
⟨none, none, [(.t 91, 1, .t 85, 1)], .store (.t 91) (.t 84) 1⟩,
oP 92 (.nilCheck (.t 83)),
oF 93 92 4,
oF 94 93 0,
oT 94 88 1])
 (.seq
 (.ops [
oM 95 14,
oM 96 15,
oM 97 15,
oB 98 .mul 96 97,
oC 99 .mul 98 981,
oM 100 9,
oM 101 12,
oA 102 66 [.t 100, .t 101] false,
oB 103 .quo 99 102,
oA 104 65 [.t 103] false,
oP 105 (.nilCheck (.t 95)),
oF 106 105 6,
oF 107 106 0,
oT 107 104 1])
 (.ops [
oM 108 14,
oP 109 (.nilCheck (.t 108)),
oF 110 109 4,
oF 111 110 1,
⟨none, none, [], .store (.t 111) (.k (.int .i64 (-1200000))) 1⟩]))))
 (.seq
 (.ops [
oM 113 9,
oP 114 (.nilCheck (.t 113)),
oF 115 114 18,
oL 116 115,
oM 117 12,
oI 118 116 117 1,
oL 119 118,
oC 120 .neq 119 (-1099511627776),
oM 112 120])
 (.cond (.t 112)
 (.seq
 (.ops [
oM 121 14,
oM 122 9,
oP 123 (.nilCheck (.t 122)),
oF 124 123 18,
oL 125 124,
oM 126 12,
oI 127 125 126 1,
oL 128 127,
oP 129 (.nilCheck (.t 121)),
oF 130 129 4,
oF 131 130 0,
oT 131 128 1])
 (.seq
 (.ops [
oM 132 14,
oM 133 14,
oP 134 (.nilCheck (.t 133)),
oF 135 134 4,
oF 136 135 0,
oL 137 136,
oF 138 13 1,
oL 139 138,
oB 140 .sub 137 139,
oP 141 (.nilCheck (.t 132)),
oF 142 141 2,
oF 143 142 0,
oT 143 140 1])
 (.ops [
oM 144 14,
oM 145 14,
oP 146 (.nilCheck (.t 145)),
oF 147 146 2,
oF 148 147 0,
oL 149 148,
oP 150 (.bin .mul (oK 981) (.t 149)),
oA 151 65 [.t 150] false,
oP 152 (.nilCheck (.t 144)),
oF 153 152 6,
oF 154 153 0,
oT 154 151 1])))
 .skip)))))
def pHi : ACode := (.seq
 (.ops [
oM 155 10,
oM 156 12,
oA 157 63 [.t 155, .t 156] false])
 (.cond (.t 157)
 (.seq
 (.ops [
oM 158 10,
oM 159 12,
oA 160 64 [.t 158, .t 159] false,
oM 16 160])
 (.seq
 (.ops [
oM 161 14,
oM 162 14,
oM 163 16,
oM 164 14,
oP 165 (.nilCheck (.t 164)),
oF 166 165 4,
oF 167 166 1,
oL 168 167,
oF 169 5 1,
oL 170 169,
oM 171 16,
oB 172 .add 170 171,
oP 173 (.max [.t 168, .t 172]),
oP 174 (.nilCheck (.t 161)),
oF 175 174 2,
oF 176 175 1,
⟨none, none, [(.t 176, 1, .t 169, 1)], .store (.t 176) (.t 163) 1⟩,
oP 177 (.nilCheck (.t 162)),
oF 178 177 4,
oF 179 178 1,
oT 179 173 1])
 (.ops [
oM 180 14,
oM 181 16,
oM 182 16,
oB 183 .mul 181 182,
oC 184 .mul 183 981,
oM 185 10,
oM 186 12,
oA 187 66 [.t 185, .t 186] false,
oP 188 (.max [.k (.int .i64 1), .t 187]),
oA 189 68 [.t 184, .t 188] false,
oA 190 67 [.t 189] false,
oP 191 (.nilCheck (.t 180)),
oF 192 191 6,
oF 193 192 1,
oT 193 190 1])))
 .skip))
def pLand : ACode := (.seq
 (.ops [
oM 194 10,
oP 195 (.nilCheck (.t 194)),
oF 196 195 19,
oL 197 196,
oM 198 12,
oI 199 197 198 1,
oL 200 199,
oM 17 200])
 (.seq
 (.ops [
oM 201 17,
oC 202 .neq 201 (-1099511627776)])
 (.cond (.t 202)
 (.seq
 (.ops [
oM 203 14,
oM 204 14,
oM 205 14,
oP 206 (.nilCheck (.t 205)),
oF 207 206 2,
oF 208 207 1,
oL 209 208,
oM 210 17,
oF 211 13 0,
oL 212 211,
oB 213 .sub 210 212,
oP 214 (.max [.t 209, .t 213]),
oM 215 14,
oP 216 (.nilCheck (.t 215)),
oF 217 216 4,
oF 218 217 1,
oL 219 218,
oM 220 17,
oP 221 (.max [.t 219, .t 220]),
oP 222 (.nilCheck (.t 203)),
oF 223 222 2,
oF 224 223 1,
oT 224 214 1,
oP 225 (.nilCheck (.t 204)),
oF 226 225 4,
oF 227 226 1,
oT 227 221 1])
 (.ops [
oM 228 14,
oM 229 14,
oP 230 (.nilCheck (.t 229)),
oF 231 230 6,
oF 232 231 1,
oL 233 232,
oM 234 17,
oF 235 13 0,
oL 236 235,
oB 237 .sub 234 236,
oP 238 (.bin .mul (oK 981) (.t 237)),
oA 239 67 [.t 238] true,
oP 240 (.max [.t 233, .t 239]),
oP 241 (.nilCheck (.t 228)),
oF 242 241 6,
oF 243 242 1,
oT 243 240 1]))
 .skip)))
def body45 : ACode := .seq (.ops [
oB 38 .lss 37 36]) (.seq (.cond (.t 38)
 .skip
 (.exit 0)) (.seq (.block 1 (.seq (.ops [
oM 39 37,
oI 40 35 37 2,
oD 41 40 2,
oP 13 (.alloc [.int .i64 0, .int .i64 0]),
oM 12 39,
oT 13 41 2]) (.seq (.ops [
oM 42 11,
oM 43 12,
oI 44 42 43 8,
oM 14 44]) (.seq (.ops [
oM 45 14,
oM 46 10,
oP 47 (.nilCheck (.t 46)),
oF 48 47 16,
oL 49 48,
oM 50 12,
oI 51 49 50 1,
oL 52 51,
oM 53 9,
oP 54 (.nilCheck (.t 53)),
oF 55 54 16,
oL 56 55,
oM 57 12,
oI 58 56 57 1,
oL 59 58,
oP 60 (.build [.int .i64 0, .int .i64 0] [(0, 1, .t 52), (1, 1, .t 59)]),
oP 61 (.nilCheck (.t 45)),
oF 62 61 0,
oT 62 60 2]) (.seq (.ops [
oM 63 14,
oM 64 14,
oF 65 13 0,
oL 66 65,
oF 67 13 1,
oL 68 67,
oP 69 (.nilCheck (.t 63)),
oF 70 69 4,
oF 71 70 0,
⟨none, none, [(.t 71, 1, .t 67, 1)], .store (.t 71) (.t 66) 1⟩,
oP 72 (.nilCheck (.t 64)),
oF 73 72 4,
oF 74 73 1,
oT 74 68 1]) (.seq pLo (.seq pHi pLand))))))) (.ops [
oC 244 .add 37 1,
oM 37 244])))
def Par.at (P : Par) (b : Bool) : Par := { P with up := b }
noncomputable def fAr (P : Par) (zs : List Int) (n : Nat) : List Int := arrL P (arrF P zs n) (strF P zs n)
noncomputable def fSt (P : Par) (zs : List Int) (n : Nat) : List Int := strF P zs n
noncomputable def fSu (P : Par) (zs : List Int) (n : Nat) : List Int := (srfF P (arrF P zs n) (strF P zs n)).1
noncomputable def fLa (P : Par) (zs : List Int) (n : Nat) : List Int := (srfF P (arrF P zs n) (strF P zs n)).2
structure Spr where
  P : Par
  zs : List Int
  n : Nat
  Xl : Nat
  al : Nat
  sl : Nat
  ul : Nat
  ll : Nat
  Xh : Nat
  ah : Nat
  sh : Nat
  uh : Nat
  lh : Nat
  x : Nat
  b5 : Nat
  g : Nat
structure Spr.Ok (E : Spr) : Prop where
  pl : POk (E.P.at false)
  ph : POk (E.P.at true)
  zl : StartOk (E.P.at false) E.zs E.n
  zh : StartOk (E.P.at true) E.zs E.n
  fl : SheetFin (E.P.at false) E.zs E.n
  fh : SheetFin (E.P.at true) E.zs E.n
  xl : E.Xl < E.x
  xh : E.Xh < E.x
  x5 : E.b5 < E.x
  hg : E.g ≤ E.x
structure Spr.St (E : Spr) (A0 A : Hp) (b13 : Nat) (c : Nat) (L : List Int) : Prop where
  lo : Sheet A (E.P.at false) E.Xl E.al E.sl E.ul E.ll (fAr (E.P.at false) E.zs E.n) (fSt (E.P.at false) E.zs E.n) (fSu (E.P.at false) E.zs E.n) (fLa (E.P.at false) E.zs E.n)
  hi : Sheet A (E.P.at true) E.Xh E.ah E.sh E.uh E.lh (fAr (E.P.at true) E.zs E.n) (fSt (E.P.at true) E.zs E.n) (fSu (E.P.at true) E.zs E.n) (fLa (E.P.at true) E.zs E.n)
  out : A.get E.x = some (.cells (ints L) false)
  gr : A.get b13 = some (.cells [.int .i64 (E.P.glo c), .int .i64 (E.P.ghi c)] false)
  sea : A.get E.b5 = some (.cells [.int .i64 E.P.slo, .int .i64 E.P.shi] false)
  keep : Keep (fun y => y = E.x) A0 A
  b13 : E.x < b13
theorem Spr.St.ext {E : Spr} {A0 A A' : Hp} {b13 c : Nat} {L : List Int} (h : E.St A0 A b13 c L) (k : Ext' A A') : E.St A0 A' b13 c L :=
  ⟨h.lo.ext k, h.hi.ext k, k.get h.out, k.get h.gr, k.get h.sea, h.keep.trans (k.keep _), h.b13⟩
theorem Spr.St.put {E : Spr} {A0 A : Hp} {b13 c : Nat} {L : List Int} (hE : E.Ok) (h : E.St A0 A b13 c L) (L' : List Int) : E.St A0 (A.set E.x (some (.cells (ints L') false))) b13 c L' := by
  have hx := Hp.lt_of_get h.out
  have h1 := hE.xl
  have h2 := hE.xh
  have h5 := hE.x5
  have hb := h.b13
  have o1 := h.lo.ord
  have o2 := h.hi.ord
  have e : ∀ y, y ≠ E.x → (A.set E.x (some (.cells (ints L') false))).get y = A.get y := fun y hy => get_set_ne hx hy
  exact ⟨h.lo.low fun y hy => e y (by omega), h.hi.low fun y hy => e y (by omega), get_set_same h.out, (e _ (by omega)).trans h.gr, (e _ (by omega)).trans h.sea, Keep.put' h.keep hx rfl, h.b13⟩
section
variable (E : Spr) (c : Nat)
noncomputable def Spr.riL : Int := (E.P.at false).rise (fSt (E.P.at false) E.zs E.n) c
noncomputable def Spr.suL : Int := gi (fSu (E.P.at false) E.zs E.n) c
noncomputable def Spr.riH : Int := (E.P.at true).rise (fSt (E.P.at true) E.zs E.n) c
noncomputable def Spr.laH : Int := gi (fLa (E.P.at true) E.zs E.n) c
noncomputable def Spr.r2 : Int := if 1 ≤ (E.P.at false).dep c then E.riL c else if E.suL c ≠ -Never then E.suL c - E.P.ghi c else 0
noncomputable def Spr.r4 : Int := if 1 ≤ (E.P.at false).dep c then E.P.slo + E.riL c else if E.suL c ≠ -Never then E.suL c else E.P.glo c
noncomputable def Spr.r5 : Int := if 1 ≤ (E.P.at false).dep c then -1200000 else E.P.ghi c
noncomputable def Spr.r6 : Int := if 1 ≤ (E.P.at false).dep c then rootI ((E.riL c * E.riL c * 981).tdiv ((E.P.at false).lst c)) else if E.suL c ≠ -Never then rootI (981 * (E.suL c - E.P.ghi c)) else 0
noncomputable def Spr.h3 : Int := if 1 ≤ (E.P.at true).dep c then E.riH c else 0
noncomputable def Spr.h5 : Int := if 1 ≤ (E.P.at true).dep c then max (E.r5 c) (E.P.shi + E.riH c) else E.r5 c
noncomputable def Spr.h7 : Int := if 1 ≤ (E.P.at true).dep c then rootUpI (upI (E.riH c * E.riH c * 981) (max 1 ((E.P.at true).lst c))) else 0
noncomputable def Spr.l3 : Int := if E.laH c ≠ -Never then max (E.h3 c) (E.laH c - E.P.glo c) else E.h3 c
noncomputable def Spr.l5 : Int := if E.laH c ≠ -Never then max (E.h5 c) (E.laH c) else E.h5 c
noncomputable def Spr.l7 : Int := if E.laH c ≠ -Never then max (E.h7 c) (rootUpI (981 * (E.laH c - E.P.glo c))) else E.h7 c
end
section
variable {E : Spr} {A0 A : Hp} {b13 c : Nat} {T : List Value} {D : List Nat} {rd : Option Nat} {Q : Ex → St → Prop} {pre post : List Int} {a0 a1 a2 a3 a4 a5 a6 a7 : Int}
theorem pLo_run (hE : E.Ok) (hc : c < E.P.l.length) (hpre : pre.length = c * 8) (h : E.St A0 A b13 c (row8 pre a0 a1 0 a3 (E.P.glo c) (E.P.ghi c) 0 a7 post))
    (t9 : tget T 9 = ptrV E.Xl) (t12 : tget T 12 = .int .i64 c) (t13 : tget T 13 = ptrV b13) (t14 : tget T 14 = .pointer (some ⟨E.x, c * 8, none⟩)) (t5 : tget T 5 = ptrV E.b5)
    (hQ : ∀ T' A', E.St A0 A' b13 c (row8 pre a0 a1 (E.r2 c) a3 (E.r4 c) (E.r5 c) (E.r6 c) a7 post) → (∀ i, i < 15 ∨ (35 ≤ i ∧ i < 38) → tget T' i = tget T i) → Q .normal ⟨T', D, A'⟩) :
    W AP KL E.g rd pLo ⟨T, D, A⟩ Q := by
  have hx := Hp.lt_of_get h.out
  have hxg := hE.hg
  have hcl : c < (E.P.at false).l.length := hc
  simp (disch := as_aux_lemma => first | omega | simp only [hDs] <;> omega | simp [isCell]) [hRs, takeMarks, resA, resAll, resOne, Value.cells, pLo, t9, t12, ptrV]
  refine w63 h.lo hE.pl hcl fun A1 k1 => ?_
  have h1 := h.ext k1
  by_cases hd : 1 ≤ (E.P.at false).dep c
  · have hO := sailOk hE.pl hE.zl hE.fl.arr hE.fl.str
    have hun := hE.pl.under hcl hd
    have hri := hE.pl.rise' hcl hun (hO.st c hcl)
    simp (disch := as_aux_lemma => first | omega | simp only [hDs] <;> omega | simp [isCell]) [hRs, takeMarks, resA, resAll, resOne, Value.cells, hd, t9, t12, ptrV]
    refine w64 h1.lo hE.pl hcl hun (hO.st c hcl) fun A2 k2 => ?_
    have h2 := h1.ext k2
    have hX2 := h2.sea
    have ho2 := h2.out
    have hs2 := hE.pl.sea
    have sm : ∀ b, (A2.set E.x b).get E.x = b := fun b => get_set_same ho2
    obtain ⟨r, hr⟩ : ∃ r, r = E.riL c := ⟨_, rfl⟩
    have hrr : (E.P.at false).rise (fSt (E.P.at false) E.zs E.n) c = r := hr.symm
    have hri : 0 ≤ r ∧ r ≤ 196000 := by rw [hr]; exact hri
    have m1 : 0 ≤ r * r ∧ r * r ≤ 196000 * 196000 := ⟨Int.mul_nonneg hri.1 hri.1, Int.mul_le_mul hri.2 hri.2 hri.1 (by omega)⟩
    have hsl : -20000 ≤ E.P.slo ∧ E.P.slo ≤ 20000 := by have : (E.P.at false).slo = E.P.slo := rfl; have : (E.P.at false).shi = E.P.shi := rfl; omega
    have hun' : 1 ≤ (E.P.at false).lst c := hun
    have hl2 := hE.pl.lst hcl
    have q : 0 ≤ (r * r * 981).tdiv ((E.P.at false).lst c) ∧ (r * r * 981).tdiv ((E.P.at false).lst c) ≤ r * r * 981 := by
      rw [Int.tdiv_eq_ediv_of_nonneg (by omega)]
      exact ⟨Int.ediv_nonneg (by omega) (by omega), Int.ediv_le_self _ (by omega)⟩
    simp (disch := as_aux_lemma => first | omega | simp only [hDs] <;> omega | simp [isCell]) [hRs, takeMarks, resA, resAll, resOne, Value.cells, t14, t5, ptrV, hX2, ho2, sm, set_set, rowPut2, rowPut4, apartA, show ¬ E.x = E.b5 by have := hE.x5; omega, t12, t9, hrr, wrId (n := E.P.slo + r) (by omega) (by omega), wrId (n := r * r) (by omega) (by omega), wrId (n := r * r * 981) (by omega) (by omega)]
    have h3 := h2.put hE (row8 pre a0 a1 r a3 (E.P.slo + r) (E.P.ghi c) 0 a7 post)
    refine w66 h3.lo hE.pl hcl fun A3 k3 => ?_
    have h4 := h3.ext k3
    have ho4 := h4.out
    have sm4 : ∀ b, (A3.set E.x b).get E.x = b := fun b => get_set_same ho4
    have hx4 := Hp.lt_of_get ho4
    simp (disch := as_aux_lemma => first | omega | simp only [hDs] <;> omega | simp [isCell]) [hRs, takeMarks, resA, resAll, resOne, Value.cells, binA_quo (show (E.P.at false).lst c ≠ 0 by omega), wrId (n := (r * r * 981).tdiv ((E.P.at false).lst c)) (by omega) (by omega)]
    refine w65 q.1 (by omega) ?_
    simp (disch := as_aux_lemma => first | omega | simp only [hDs] <;> omega | simp [isCell]) [hRs, takeMarks, resA, resAll, resOne, Value.cells, t14, ho4, sm4, set_set, rowPut6, rowPut5]
    have h5 := h4.put hE (row8 pre a0 a1 r a3 (E.P.slo + r) (-1200000) (rootI ((r * r * 981).tdiv ((E.P.at false).lst c))) a7 post)
    refine hQ _ _ ?_ fun i hi => ?_
    · unfold Spr.r2 Spr.r4 Spr.r5 Spr.r6
      rw [if_pos hd, if_pos hd, if_pos hd, if_pos hd, ← hr]
      exact h5
    · simp only [tget_tset]
      repeat (rw [if_neg (by omega)])
  · have hu1 := h1.lo.hu
    have hX1 := h1.lo.hx
    have hg1 := h1.gr
    have ho1 := h1.out
    have hu : c < (fSu (E.P.at false) E.zs E.n).length := by rw [h1.lo.nu]; exact hcl
    have hO := sailOk hE.pl hE.zl hE.fl.arr hE.fl.str
    have hder := hE.fl.srf.mid.der c hcl
    have hsv : SurfV (gi (fSu (E.P.at false) E.zs E.n) c) := surf_der hE.pl hO hder
    have hgr := hE.pl.ground hcl
    have eglo : (E.P.at false).ghi c = E.P.ghi c := rfl
    by_cases hs : gi (fSu (E.P.at false) E.zs E.n) c = -1099511627776
    · simp (disch := as_aux_lemma => first | omega | simp only [hDs] <;> omega | simp [isCell]) [hRs, takeMarks, resA, resAll, resOne, Value.cells, hd, t9, t12, ptrV, hX1, shCells, rowS1, idxSA_ok, show (c : Int) < (E.P.at false).l.length by omega, hu1, ints_get hu, hs]
      refine hQ _ _ ?_ fun i hi => ?_
      · unfold Spr.r2 Spr.r4 Spr.r5 Spr.r6
        rw [if_neg hd, if_neg hd, if_neg hd, if_neg hd, if_neg (fun hn => hn hs), if_neg (fun hn => hn hs), if_neg (fun hn => hn hs)]
        exact h1
      · simp only [tget_tset]
        repeat (rw [if_neg (by omega)])
    · have hab : agE (E.P.at false).up ((E.P.at false).glo c) ((E.P.at false).ghi c) < gi (fSu (E.P.at false) E.zs E.n) c := surf_above hE.pl hO hder hs hd
      have hab : E.P.ghi c < gi (fSu (E.P.at false) E.zs E.n) c := hab
      rcases hsv with hsv | hsv
      · exact absurd hsv hs
      obtain ⟨u, hu0⟩ : ∃ u, u = E.suL c := ⟨_, rfl⟩
      have huu : gi (fSu (E.P.at false) E.zs E.n) c = u := hu0.symm
      rw [huu] at hab hsv hs
      have sm : ∀ b, (A1.set E.x b).get E.x = b := fun b => get_set_same ho1
      have g13 : ∀ b, (A1.set E.x b).get b13 = A1.get b13 := fun b => get_set_ne (Hp.lt_of_get ho1) (by have := h1.b13; omega)
      simp (disch := as_aux_lemma => first | omega | simp only [hDs] <;> omega | simp [isCell]) [hRs, takeMarks, resA, resAll, resOne, Value.cells, hd, t9, t12, ptrV, hX1, shCells, rowS1, idxSA_ok, show (c : Int) < (E.P.at false).l.length by omega, hu1, ints_get hu, huu, hs, t14, ho1, sm, set_set, rowPut4, rowGet4, t13, g13, hg1, wrId (n := u - E.P.ghi c) (by omega) (by omega), rowPut2, rowGet2, wrId (n := 981 * (u - E.P.ghi c)) (by omega) (by omega)]
      refine w65 (by omega) (by omega) ?_
      simp (disch := as_aux_lemma => first | omega | simp only [hDs] <;> omega | simp [isCell]) [hRs, takeMarks, resA, resAll, resOne, Value.cells, t14, sm, set_set, rowPut6]
      refine hQ _ _ ?_ fun i hi => ?_
      · unfold Spr.r2 Spr.r4 Spr.r5 Spr.r6
        have hs' : u ≠ -Never := hs
        rw [if_neg hd, if_neg hd, if_neg hd, if_neg hd, ← hu0, if_pos hs', if_pos hs', if_pos hs']
        exact h1.put hE _
      · simp only [tget_tset]
        repeat (rw [if_neg (by omega)])
theorem pHi_run (hE : E.Ok) (hc : c < E.P.l.length) (hpre : pre.length = c * 8) (h : E.St A0 A b13 c (row8 pre a0 a1 a2 0 a4 (E.r5 c) a6 0 post))
    (t10 : tget T 10 = ptrV E.Xh) (t12 : tget T 12 = .int .i64 c) (t14 : tget T 14 = .pointer (some ⟨E.x, c * 8, none⟩)) (t5 : tget T 5 = ptrV E.b5)
    (hQ : ∀ T' A', E.St A0 A' b13 c (row8 pre a0 a1 a2 (E.h3 c) a4 (E.h5 c) a6 (E.h7 c) post) → (∀ i, i < 15 ∨ (35 ≤ i ∧ i < 38) → tget T' i = tget T i) → Q .normal ⟨T', D, A'⟩) :
    W AP KL E.g rd pHi ⟨T, D, A⟩ Q := by
  have hx := Hp.lt_of_get h.out
  have hxg := hE.hg
  have hcl : c < (E.P.at true).l.length := hc
  simp (disch := as_aux_lemma => first | omega | simp only [hDs] <;> omega | simp [isCell]) [hRs, takeMarks, resA, resAll, resOne, Value.cells, pHi, t10, t12, ptrV]
  refine w63 h.hi hE.ph hcl fun A1 k1 => ?_
  have h1 := h.ext k1
  by_cases hd : 1 ≤ (E.P.at true).dep c
  · have hO := sailOk hE.ph hE.zh hE.fh.arr hE.fh.str
    have hun := hE.ph.under hcl hd
    have hri := hE.ph.rise' hcl hun (hO.st c hcl)
    simp (disch := as_aux_lemma => first | omega | simp only [hDs] <;> omega | simp [isCell]) [hRs, takeMarks, resA, resAll, resOne, Value.cells, hd, t10, t12, ptrV]
    refine w64 h1.hi hE.ph hcl hun (hO.st c hcl) fun A2 k2 => ?_
    have h2 := h1.ext k2
    have hX2 := h2.sea
    have ho2 := h2.out
    have hs2 := hE.ph.sea
    have sm : ∀ b, (A2.set E.x b).get E.x = b := fun b => get_set_same ho2
    obtain ⟨r, hr⟩ : ∃ r, r = E.riH c := ⟨_, rfl⟩
    have hrr : (E.P.at true).rise (fSt (E.P.at true) E.zs E.n) c = r := hr.symm
    have hri : 0 ≤ r ∧ r ≤ 196000 := by rw [hr]; exact hri
    have m1 : 0 ≤ r * r ∧ r * r ≤ 196000 * 196000 := ⟨Int.mul_nonneg hri.1 hri.1, Int.mul_le_mul hri.2 hri.2 hri.1 (by omega)⟩
    have hsl : -20000 ≤ E.P.shi ∧ E.P.shi ≤ 20000 := by have : (E.P.at true).slo = E.P.slo := rfl; have : (E.P.at true).shi = E.P.shi := rfl; omega
    have hl2 := hE.ph.lst hcl
    obtain ⟨m, hm⟩ : ∃ m, m = max 1 ((E.P.at true).lst c) := ⟨_, rfl⟩
    have hmb : 1 ≤ m ∧ m ≤ 1220000 := by omega
    have q : 0 ≤ upI (r * r * 981) m ∧ upI (r * r * 981) m ≤ r * r * 981 := by
      unfold upI
      rw [Int.tdiv_eq_ediv_of_nonneg (by omega)]
      refine ⟨Int.ediv_nonneg (by omega) (by omega), ?_⟩
      have hk : r * r * 981 + m - 1 ≤ r * r * 981 * m + (m - 1) := by
        have := Int.mul_le_mul_of_nonneg_left (show (1 : Int) ≤ m by omega) (show 0 ≤ r * r * 981 by omega)
        omega
      have h2 := Int.ediv_le_ediv (show 0 < m by omega) hk
      rw [Int.add_comm (r * r * 981 * m), Int.add_mul_ediv_right _ _ (by omega), Int.ediv_eq_zero_of_lt (show 0 ≤ m - 1 by omega) (show m - 1 < m by omega)] at h2
      omega
    simp (disch := as_aux_lemma => first | omega | simp only [hDs] <;> omega | simp [isCell]) [hRs, takeMarks, resA, resAll, resOne, Value.cells, t14, t5, ptrV, hX2, ho2, sm, set_set, rowPut3, rowPut5, rowGet5, apartA, show ¬ E.x = E.b5 by have := hE.x5; omega, t12, t10, hrr, wrId (n := E.P.shi + r) (by omega) (by omega), wrId (n := r * r) (by omega) (by omega), wrId (n := r * r * 981) (by omega) (by omega)]
    have h3 := h2.put hE (row8 pre a0 a1 a2 r a4 (max (E.r5 c) (E.P.shi + r)) a6 0 post)
    refine w66 h3.hi hE.ph hcl fun A3 k3 => ?_
    have h4 := h3.ext k3
    have ho4 := h4.out
    have sm4 : ∀ b, (A3.set E.x b).get E.x = b := fun b => get_set_same ho4
    have hx4 := Hp.lt_of_get ho4
    simp (disch := as_aux_lemma => first | omega | simp only [hDs] <;> omega | simp [isCell]) [hRs, takeMarks, resA, resAll, resOne, Value.cells]
    rw [← hm]
    refine w68 (by omega) (by omega) (by omega) (by omega) ?_
    simp (disch := as_aux_lemma => first | omega | simp only [hDs] <;> omega | simp [isCell]) [hRs, takeMarks, resA, resAll, resOne, Value.cells]
    refine w67 q.1 (by omega) ?_
    simp (disch := as_aux_lemma => first | omega | simp only [hDs] <;> omega | simp [isCell]) [hRs, takeMarks, resA, resAll, resOne, Value.cells, t14, ho4, sm4, set_set, rowPut7]
    refine hQ _ _ ?_ fun i hi => ?_
    · unfold Spr.h3 Spr.h5 Spr.h7
      rw [if_pos hd, if_pos hd, if_pos hd, ← hr, ← hm]
      exact h4.put hE _
    · simp only [tget_tset]
      repeat (rw [if_neg (by omega)])
  · simp (disch := as_aux_lemma => first | omega | simp only [hDs] <;> omega | simp [isCell]) [hRs, takeMarks, resA, resAll, resOne, Value.cells, hd]
    refine hQ _ _ ?_ fun i hi => ?_
    · unfold Spr.h3 Spr.h5 Spr.h7
      rw [if_neg hd, if_neg hd, if_neg hd]
      exact h1
    · simp only [tget_tset]
      repeat (rw [if_neg (by omega)])
theorem pLand_run (hE : E.Ok) (hc : c < E.P.l.length) (hpre : pre.length = c * 8) (h : E.St A0 A b13 c (row8 pre a0 a1 a2 (E.h3 c) a4 (E.h5 c) a6 (E.h7 c) post))
    (t10 : tget T 10 = ptrV E.Xh) (t12 : tget T 12 = .int .i64 c) (t13 : tget T 13 = ptrV b13) (t14 : tget T 14 = .pointer (some ⟨E.x, c * 8, none⟩))
    (hQ : ∀ T' A', E.St A0 A' b13 c (row8 pre a0 a1 a2 (E.l3 c) a4 (E.l5 c) a6 (E.l7 c) post) → (∀ i, i < 15 ∨ (35 ≤ i ∧ i < 38) → tget T' i = tget T i) → Q .normal ⟨T', D, A'⟩) :
    W AP KL E.g rd pLand ⟨T, D, A⟩ Q := by
  have hx := Hp.lt_of_get h.out
  have hxg := hE.hg
  have hcl : c < (E.P.at true).l.length := hc
  have hl := h.hi.hl
  have hX := h.hi.hx
  have hg := h.gr
  have ho := h.out
  have hn : c < (fLa (E.P.at true) E.zs E.n).length := by rw [h.hi.nl]; exact hcl
  have hO := sailOk hE.ph hE.zh hE.fh.arr hE.fh.str
  have hgr := hE.ph.ground hcl
  have eglo : (E.P.at true).glo c = E.P.glo c := rfl
  by_cases hs : gi (fLa (E.P.at true) E.zs E.n) c = -1099511627776
  · simp (disch := as_aux_lemma => first | omega | simp only [hDs] <;> omega | simp [isCell]) [hRs, takeMarks, resA, resAll, resOne, Value.cells, pLand, t10, t12, ptrV, hX, shCells, rowS1, idxSA_ok, show (c : Int) < (E.P.at true).l.length by omega, hl, ints_get hn, hs]
    refine hQ _ _ ?_ fun i hi => ?_
    · unfold Spr.l3 Spr.l5 Spr.l7
      rw [if_neg (fun hn => hn hs), if_neg (fun hn => hn hs), if_neg (fun hn => hn hs)]
      exact h
    · simp only [tget_tset]
      repeat (rw [if_neg (by omega)])
  · obtain ⟨hab, hs1, hs2⟩ := land_above hE.ph hO hE.fh.srf hcl hs
    have hab : E.P.glo c < gi (fLa (E.P.at true) E.zs E.n) c := hab
    have hs1 : -1200000 ≤ gi (fLa (E.P.at true) E.zs E.n) c := hs1
    have hs2 : gi (fLa (E.P.at true) E.zs E.n) c ≤ 200020000 := hs2
    obtain ⟨u, hu0⟩ : ∃ u, u = E.laH c := ⟨_, rfl⟩
    have huu : gi (fLa (E.P.at true) E.zs E.n) c = u := hu0.symm
    rw [huu] at hab hs1 hs2 hs
    have sm : ∀ b, (A.set E.x b).get E.x = b := fun b => get_set_same ho
    have g13 : ∀ b, (A.set E.x b).get b13 = A.get b13 := fun b => get_set_ne (Hp.lt_of_get ho) (by have := h.b13; omega)
    simp (disch := as_aux_lemma => first | omega | simp only [hDs] <;> omega | simp [isCell]) [hRs, takeMarks, resA, resAll, resOne, Value.cells, pLand, t10, t12, ptrV, hX, shCells, rowS1, idxSA_ok, show (c : Int) < (E.P.at true).l.length by omega, hl, ints_get hn, huu, hs, t14, ho, sm, set_set, t13, g13, hg, wrId (n := u - E.P.glo c) (by omega) (by omega), rowPut3, rowGet3, rowPut5, rowGet5, rowGet7, wrId (n := 981 * (u - E.P.glo c)) (by omega) (by omega)]
    refine w67 (by omega) (by omega) ?_
    simp (disch := as_aux_lemma => first | omega | simp only [hDs] <;> omega | simp [isCell]) [hRs, takeMarks, resA, resAll, resOne, Value.cells, t14, sm, set_set, rowPut7]
    refine hQ _ _ ?_ fun i hi => ?_
    · have hs' : u ≠ -Never := hs
      unfold Spr.l3 Spr.l5 Spr.l7
      rw [← hu0, if_pos hs', if_pos hs', if_pos hs']
      exact h.put hE _
    · simp only [tget_tset]
      repeat (rw [if_neg (by omega)])
end
end Go.Ab.Wave
namespace Go.Ab.Wave
open Go Go.Ab
structure Spr.St0 (E : Spr) (A0 A : Hp) (L : List Int) : Prop where
  lo : Sheet A (E.P.at false) E.Xl E.al E.sl E.ul E.ll (fAr (E.P.at false) E.zs E.n) (fSt (E.P.at false) E.zs E.n) (fSu (E.P.at false) E.zs E.n) (fLa (E.P.at false) E.zs E.n)
  hi : Sheet A (E.P.at true) E.Xh E.ah E.sh E.uh E.lh (fAr (E.P.at true) E.zs E.n) (fSt (E.P.at true) E.zs E.n) (fSu (E.P.at true) E.zs E.n) (fLa (E.P.at true) E.zs E.n)
  out : A.get E.x = some (.cells (ints L) false)
  sea : A.get E.b5 = some (.cells [.int .i64 E.P.slo, .int .i64 E.P.shi] false)
  keep : Keep (fun y => y = E.x) A0 A
theorem Spr.St.to0 {E : Spr} {A0 A : Hp} {b13 c : Nat} {L : List Int} (h : E.St A0 A b13 c L) : E.St0 A0 A L := ⟨h.lo, h.hi, h.out, h.sea, h.keep⟩
noncomputable def Spr.row (E : Spr) (c : Nat) : List Int :=
  [gi (fAr (E.P.at true) E.zs E.n) c, gi (fAr (E.P.at false) E.zs E.n) c, E.r2 c, E.l3 c, E.r4 c, E.l5 c, E.r6 c, E.l7 c]
noncomputable def Spr.rows (E : Spr) (i : Nat) : List Int := (List.range i).flatMap E.row
theorem Spr.rows_succ {E : Spr} {i : Nat} : E.rows (i + 1) = E.rows i ++ E.row i := by
  unfold Spr.rows
  rw [List.range_succ, List.flatMap_append, List.flatMap_singleton]
theorem Spr.rows_len {E : Spr} {i : Nat} : (E.rows i).length = i * 8 := by
  induction i with
  | zero => rfl
  | succ i ih => rw [Spr.rows_succ, List.length_append, ih]; simp [Spr.row]; omega
noncomputable def Spr.full (E : Spr) (i : Nat) : List Int := E.rows i ++ List.replicate ((E.P.l.length - i) * 8) 0
theorem Spr.full_row {E : Spr} {i : Nat} (h : i < E.P.l.length) : E.full i = row8 (E.rows i) 0 0 0 0 0 0 0 0 (List.replicate ((E.P.l.length - (i + 1)) * 8) 0) := by
  unfold Spr.full row8
  rw [show (E.P.l.length - i) * 8 = (E.P.l.length - (i + 1)) * 8 + 8 by omega]
  rfl
theorem Spr.full_next {E : Spr} {i : Nat} : row8 (E.rows i) (gi (fAr (E.P.at true) E.zs E.n) i) (gi (fAr (E.P.at false) E.zs E.n) i) (E.r2 i) (E.l3 i) (E.r4 i) (E.l5 i) (E.r6 i) (E.l7 i) (List.replicate ((E.P.l.length - (i + 1)) * 8) 0) = E.full (i + 1) := by
  unfold Spr.full
  rw [Spr.rows_succ, List.append_assoc]
  rfl
theorem ground_two {P : Par} {c : Nat} {A : Hp} (hg : groundOf A P.sl = some P.l) (hc : c < P.l.length) : ∃ x cap ro, P.sl = .slice (some ⟨x, 0, some 2⟩) P.l.length cap ∧ A.get x = some (.cells (ints (flat2 P.l)) ro) := by
  obtain ⟨x, xc, xr, hsl, hx⟩ := (rd_ground hg).at hc
  exact ⟨x, xc, xr, hsl, hx⟩
section
variable {E : Spr} {D : List Nat} {rd : Option Nat} {Q : Ex → St → Prop}
theorem loop45 {A0 : Hp} (hE : E.Ok) (hQ : ∀ T' A', E.St0 A0 A' (E.full E.P.l.length) → tget T' 11 = .slice (some ⟨E.x, 0, some 8⟩) E.P.l.length E.P.l.length → Q (.exit 0) ⟨T', D, A'⟩) :
    ∀ (k i : Nat) (T : List Value) (A : Hp), i + k = E.P.l.length → E.St0 A0 A (E.full i) → tget T 9 = ptrV E.Xl → tget T 10 = ptrV E.Xh → tget T 5 = ptrV E.b5 → tget T 11 = .slice (some ⟨E.x, 0, some 8⟩) E.P.l.length E.P.l.length →
      tget T 35 = E.P.sl → tget T 36 = .int .i64 E.P.l.length → tget T 37 = .int .i64 i → W AP KL E.g rd (.loop body45) ⟨T, D, A⟩ Q := by
  have hsm : E.P.l.length ≤ 40 := hE.pl.small
  intro k
  induction k with
  | zero =>
    intro i T A hi h t9 t10 t5 t11 t35 t36 t37
    have : i = E.P.l.length := by omega
    rw [W_loop]
    simp (disch := as_aux_lemma => first | omega | simp only [hDs] <;> omega | simp [isCell]) [hRs, takeMarks, resA, resAll, resOne, Value.cells, body45, t36, t37, show ¬ (i : Int) < E.P.l.length by omega]
    subst this
    exact hQ _ A h (by simp [t11])
  | succ k ih =>
    intro i T A hi h t9 t10 t5 t11 t35 t36 t37
    have hil : i < E.P.l.length := by omega
    obtain ⟨y, cap, ro, hsl, hy⟩ := ground_two (P := E.P.at false) h.lo.hg hil
    have hsl : E.P.sl = .slice (some ⟨y, 0, some 2⟩) E.P.l.length cap := hsl
    have hgl : (flat2 E.P.l).length = E.P.l.length * 2 := flat2_length _
    have hy : A.get y = some (.cells (ints (flat2 E.P.l)) ro) := hy
    have hyn := Hp.lt_of_get hy
    have hxn := Hp.lt_of_get h.out
    have hxg := hE.hg
    have ho := h.out
    rw [Spr.full_row hil] at ho
    obtain ⟨B, hB⟩ : ∃ B, B = A.push (.cells [.int .i64 (E.P.glo i), .int .i64 (E.P.ghi i)] false) := ⟨_, rfl⟩
    have kB : Ext' A B := by rw [hB]; exact Ext'.push _ _
    have gB : B.get A.n = some (.cells [.int .i64 (E.P.glo i), .int .i64 (E.P.ghi i)] false) := by rw [hB]; exact get_push_new
    have hB' := hB
    unfold Par.glo Par.ghi at hB'
    have ho1 := kB.get ho
    have h1 : E.St A0 B A.n i (row8 (E.rows i) 0 0 0 0 0 0 0 0 (List.replicate ((E.P.l.length - (i + 1)) * 8) 0)) :=
      ⟨h.lo.ext kB, h.hi.ext kB, ho1, gB, kB.get h.sea, h.keep.trans (kB.keep _), by omega⟩
    have hXl := h1.lo.hx
    have hXh := h1.hi.hx
    have hal := h1.lo.ha
    have hah := h1.hi.ha
    have el : i < (fAr (E.P.at false) E.zs E.n).length := by rw [h1.lo.na]; exact hil
    have eh : i < (fAr (E.P.at true) E.zs E.n).length := by rw [h1.hi.na]; exact hil
    have hxB := Hp.lt_of_get ho1
    have hpl : (E.rows i).length = i * 8 := Spr.rows_len
    have nl : (E.P.at false).l.length = E.P.l.length := rfl
    have nh : (E.P.at true).l.length = E.P.l.length := rfl
    have sm : ∀ b, (B.set E.x b).get E.x = b := fun b => get_set_same ho1
    have g13 : ∀ b, (B.set E.x b).get A.n = B.get A.n := fun b => get_set_ne hxB (by omega)
    rw [W_loop]
    simp (disch := as_aux_lemma => first | omega | simp only [hDs] <;> omega | simp [isCell]) [hRs, takeMarks, resA, resAll, resOne, Value.cells, body45, t36, t37, t35, hsl, show (i : Int) < E.P.l.length by omega, idxSA_ok, hy, ints_two, storeB_cells, setRange_all]
    rw [← hB']
    simp (disch := as_aux_lemma => first | omega | simp only [hDs] <;> omega | simp [isCell]) [hRs, takeMarks, resA, resAll, resOne, Value.cells, t11, t10, t9, ptrV, idxSA_ok, show (i : Int) < E.P.l.length by omega, hXh, hXl, shCells, rowS1, nl, nh, hal, hah, ints_get el, ints_get eh, fillA, setRange, ho1, sm, set_set, rowPut01, gB, g13, rowPut4, rowPut5, apartA, show ¬ E.x = A.n by omega]
    have h2 := h1.put hE (row8 (E.rows i) (gi (fAr (E.P.at true) E.zs E.n) i) (gi (fAr (E.P.at false) E.zs E.n) i) 0 0 (E.P.glo i) (E.P.ghi i) 0 0 (List.replicate ((E.P.l.length - (i + 1)) * 8) 0))
    refine pLo_run hE hil hpl h2 ?_ ?_ ?_ ?_ ?_ fun T3 A3 h3 q3 => ?_
    · simp [t9]
    · simp
    · simp [ptrV]
    · simp
    · simp [t5]
    have p9 := q3 9 (by omega)
    have p10 := q3 10 (by omega)
    have p5 := q3 5 (by omega)
    have p12 := q3 12 (by omega)
    have p13 := q3 13 (by omega)
    have p14 := q3 14 (by omega)
    simp at p9 p10 p5 p12 p13 p14
    simp (disch := as_aux_lemma => first | omega | simp only [hDs] <;> omega | simp [isCell]) [hRs, takeMarks, resA, resAll, resOne, Value.cells]
    refine pHi_run hE hil hpl h3 ?_ ?_ ?_ ?_ fun T4 A4 h4 q4 => ?_
    · rw [p10, t10]
    · rw [p12]
    · rw [p14]
    · rw [p5, t5]
    simp (disch := as_aux_lemma => first | omega | simp only [hDs] <;> omega | simp [isCell]) [hRs, takeMarks, resA, resAll, resOne, Value.cells]
    refine pLand_run hE hil hpl h4 ?_ ?_ ?_ ?_ fun T5 A5 h5 q5 => ?_
    · rw [q4 10 (by omega), p10, t10]
    · rw [q4 12 (by omega), p12]
    · rw [q4 13 (by omega), p13]; rfl
    · rw [q4 14 (by omega), p14]
    have h6 := h5.to0
    rw [Spr.full_next] at h6
    have e : ∀ j, (j < 15 ∨ (35 ≤ j ∧ j < 38)) → tget T5 j = tget T3 j := fun j hj => (q5 j hj).trans (q4 j hj)
    have p35 := q3 35 (by omega)
    have p36 := q3 36 (by omega)
    have p37 := q3 37 (by omega)
    have p11 := q3 11 (by omega)
    simp at p35 p36 p37 p11
    have e37 := (e 37 (by omega)).trans p37
    simp (disch := as_aux_lemma => first | omega | simp only [hDs] <;> omega | simp [isCell]) [hRs, takeMarks, resA, resAll, resOne, Value.cells, e37, t37]
    refine ih (i + 1) _ A5 (by omega) h6 ?_ ?_ ?_ ?_ ?_ ?_ ?_
    · simp [e 9 (by omega), p9, t9]
    · simp [e 10 (by omega), p10, t10]
    · simp [e 5 (by omega), p5, t5]
    · simp [e 11 (by omega), p11, t11]
    · simp [e 35 (by omega), p35, t35, hsl]
    · simp [e 36 (by omega), p36, t36]
    · simp [wrId (n := (i : Int) + 1) (by omega) (by omega)]
end
end Go.Ab.Wave
namespace Go.Ab.Wave
open Go Go.Ab
noncomputable def bounds (P : Par) (zs : List Int) (n : Nat) : List Int := Spr.rows ⟨P, zs, n, 0, 0, 0, 0, 0, 0, 0, 0, 0, 0, 0, 0, 0⟩ P.l.length
theorem bounds_len {P : Par} {zs : List Int} {n : Nat} : (bounds P zs n).length = P.l.length * 8 := Spr.rows_len
structure SprOk (P : Par) (zs : List Int) (n : Nat) : Prop where
  pl : POk (P.at false)
  ph : POk (P.at true)
  zl : StartOk (P.at false) zs n
  zh : StartOk (P.at true) zs n
theorem SprOk.mk' {P : Par} {zs : List Int} {n : Nat} (hP : POk P) (hz : StartOk P zs n) : SprOk P zs n :=
  ⟨⟨hP.chk, hP.sea, hP.keep, hP.land, hP.loss, hP.small⟩, ⟨hP.chk, hP.sea, hP.keep, hP.land, hP.loss, hP.small⟩, ⟨hz.len, hz.cell, hz.time, hz.rise⟩, ⟨hz.len, hz.cell, hz.time, hz.rise⟩⟩
theorem zeros8 {n : Nat} : zeros n [.int .i64 0, .int .i64 0, .int .i64 0, .int .i64 0, .int .i64 0, .int .i64 0, .int .i64 0, .int .i64 0] = ints (List.replicate (n * 8) 0) := by
  unfold zeros ints
  apply List.ext_getElem (by simp)
  intro i h1 h2
  simp only [List.getElem_map, List.getElem_range, List.getElem_replicate, List.length_cons, List.length_nil]
  have : i % (0 + 1 + 1 + 1 + 1 + 1 + 1 + 1 + 1) < 8 := Nat.mod_lt _ (by omega)
  obtain ⟨j, hj⟩ : ∃ j, j = i % (0 + 1 + 1 + 1 + 1 + 1 + 1 + 1 + 1) := ⟨_, rfl⟩
  rw [← hj] at this ⊢
  rcases j with _ | _ | _ | _ | _ | _ | _ | _ | j <;> first | rfl | omega
theorem makeS8 {A : Hp} {n : Nat} (hn : n < 1000000) : makeSA 8 64 [.int .i64 0, .int .i64 0, .int .i64 0, .int .i64 0, .int .i64 0, .int .i64 0, .int .i64 0, .int .i64 0] (.int .i64 n) (.int .i64 n) A = some (.slice (some ⟨A.n, 0, some 8⟩) n n, A.push (.cells (ints (List.replicate (n * 8) 0)) false)) := by
  unfold makeSA
  simp only
  rw [if_pos ⟨by omega, by omega, by unfold room; omega, by unfold room; omega⟩, zeros8]
  rfl
structure SprFin (P : Par) (zs : List Int) (n : Nat) : Prop where
  fl : SheetFin (P.at false) zs n
  fh : SheetFin (P.at true) zs n
section
variable {g : Nat} {A : Hp} {V : Value → Hp → Prop}
theorem w45 {P : Par} {zs : List Int} {n : Nat} {sls : Value} (hK : SprOk P zs n) (hgr : groundOf A P.sl = some P.l) (hn : n < 1000000) (hr : RdLow A 5 n A.n (ints zs) sls) (hg : g ≤ A.n)
    (hQ : ∀ A' x, Ext' A A' → A.n ≤ x → A'.get x = some (.cells (ints (bounds P zs n)) false) → SprFin P zs n → V (.slice (some ⟨x, 0, some 8⟩) P.l.length P.l.length) A') :
    WF AP KL g 45 [gridV P.w P.h P.s P.sl, spn P.slo P.shi, modelV P.k0 P.k1 P.l0 P.l1 P.o0 P.o1, sls] A V := by
  have hsm : P.l.length ≤ 40 := hK.pl.small
  have hlen : lenV P.sl = some (.int .i64 P.l.length) := by
    rcases (groundOf_cases hgr).2 with ⟨h1, h2⟩ | ⟨x, cap, ro, h1, _⟩
    · rw [h1, h2]; rfl
    · rw [h1]; rfl
  obtain ⟨B, hB⟩ : ∃ B, B = ((A.push (.cells [.int .i64 P.w, .int .i64 P.h, .int .i64 P.s, P.sl] false)).push (.cells [.int .i64 P.slo, .int .i64 P.shi] false)).push (.cells [.int .i64 P.k0, .int .i64 P.k1, .int .i64 P.l0, .int .i64 P.l1, .int .i64 P.o0, .int .i64 P.o1] false) := ⟨_, rfl⟩
  have kB : Ext' A B := by rw [hB]; exact ((Ext'.push _ _).trans (Ext'.push _ _)).trans (Ext'.push _ _)
  have b4 : B.get A.n = some (.cells [.int .i64 P.w, .int .i64 P.h, .int .i64 P.s, P.sl] false) := by rw [hB]; exact push3_a
  have b5 : B.get (A.n + 1) = some (.cells [.int .i64 P.slo, .int .i64 P.shi] false) := by rw [hB]; exact push3_b
  have b6 : B.get (A.n + 2) = some (.cells [.int .i64 P.k0, .int .i64 P.k1, .int .i64 P.l0, .int .i64 P.l1, .int .i64 P.o0, .int .i64 P.o1] false) := by rw [hB]; exact push3_c
  have nB : B.n = A.n + 3 := by rw [hB]; rfl
  rw [WF_body rfl (show AP 45 = some F45 from rfl)]
  simp (disch := as_aux_lemma => first | omega | simp only [hDs] <;> omega | simp [isCell]) [hRs, takeMarks, resA, resAll, resOne, Value.cells, gridV, spn, modelV, J]
  rw [← hB]
  refine w61 (by omega) fun A1 k1 => ?_
  have c4 := k1.get b4
  have c5 := k1.get b5
  have c6 := k1.get b6
  have n1 := k1.1
  simp (disch := as_aux_lemma => first | omega | simp only [hDs] <;> omega | simp [isCell]) [hRs, takeMarks, resA, resAll, resOne, Value.cells, c4, c5, c6]
  refine w60 (P := P.at false) (zs := zs) (n := n) hK.pl (groundOf_mono (groundOf_mono hgr kB.2) k1.2) hK.zl hn ?_ (by omega) fun A2 Xl al sl ul ll k2 hal hSl hFl => ?_
  · obtain ⟨h0, h | ⟨x, c, ro, h1, h2, h3⟩⟩ := hr
    · exact ⟨h0, .inl h⟩
    · exact ⟨h0, .inr ⟨x, c, ro, h1, k1.get (kB.get h2), by omega⟩⟩
  have n2 := k2.1
  simp (disch := as_aux_lemma => first | omega | simp only [hDs] <;> omega | simp [isCell]) [hRs, takeMarks, resA, resAll, resOne, Value.cells, ptrV]
  refine w62 (by omega) fun A3 k3 => ?_
  have n3 := k3.1
  have k13 := k2.trans k3
  have c4 := k13.get c4
  have c5 := k13.get c5
  have c6 := k13.get c6
  simp (disch := as_aux_lemma => first | omega | simp only [hDs] <;> omega | simp [isCell]) [hRs, takeMarks, resA, resAll, resOne, Value.cells, c4, c5, c6]
  refine w60 (P := P.at true) (zs := zs) (n := n) hK.ph (groundOf_mono (groundOf_mono (groundOf_mono hgr kB.2) k1.2) k13.2) hK.zh hn ?_ (by omega) fun A4 Xh ah sh uh lh k4 hah hSh hFh => ?_
  · obtain ⟨h0, h | ⟨x, c, ro, h1, h2, h3⟩⟩ := hr
    · exact ⟨h0, .inl h⟩
    · exact ⟨h0, .inr ⟨x, c, ro, h1, k13.get (k1.get (kB.get h2)), by omega⟩⟩
  have c4 := k4.get c4
  have c5 := k4.get c5
  have n4 := k4.1
  simp (disch := as_aux_lemma => first | omega | simp only [hDs] <;> omega | simp [isCell]) [hRs, takeMarks, resA, resAll, resOne, Value.cells, ptrV, c4, hlen, makeS8 (show P.l.length < 1000000 by omega)]
  obtain ⟨C, hC⟩ : ∃ C, C = A4.push (.cells (ints (List.replicate (P.l.length * 8) 0)) false) := ⟨_, rfl⟩
  have kC : Ext' A4 C := by rw [hC]; exact Ext'.push _ _
  have gC : C.get A4.n = some (.cells (ints (List.replicate (P.l.length * 8) 0)) false) := by rw [hC]; exact get_push_new
  rw [← hC]
  have hSl4 := (hSl.ext (k3.trans k4)).ext kC
  have hSh4 := hSh.ext kC
  have hXl := Hp.lt_of_get (hSl.ext (k3.trans k4)).hx
  have hXh := Hp.lt_of_get hSh.hx
  have kAll : Ext' A C := kB.trans (k1.trans (k13.trans (k4.trans kC)))
  refine loop45 (E := ⟨P, zs, n, Xl, al, sl, ul, ll, Xh, ah, sh, uh, lh, A4.n, A.n + 1, g⟩) (A0 := C) ⟨hK.pl, hK.ph, hK.zl, hK.zh, hFl, hFh, hXl, hXh, by show A.n + 1 < A4.n; omega, by show g ≤ A4.n; omega⟩ (fun T' A' h t11 => ?_) P.l.length 0 _ C (by show 0 + P.l.length = P.l.length; omega) ⟨hSl4, hSh4, gC, kC.get c5, Keep.refl _ _⟩ ?_ ?_ ?_ ?_ ?_ ?_ ?_
  · simp (disch := as_aux_lemma => first | omega | simp only [hDs] <;> omega | simp [isCell]) [hRs, takeMarks, resA, resAll, resOne, Value.cells, t11]
    refine hQ A' A4.n ⟨by have := h.keep.1; have := kAll.1; omega, fun y hy => ?_⟩ (by omega) ?_ ⟨hFl, hFh⟩
    · rw [h.keep.2 y (by have := kAll.1; omega) (by show ¬ y = A4.n; omega), kAll.2 y hy]
    · have := h.out
      rw [show Spr.full ⟨P, zs, n, Xl, al, sl, ul, ll, Xh, ah, sh, uh, lh, A4.n, A.n + 1, g⟩ P.l.length = bounds P zs n from ?_] at this
      · exact this
      · unfold Spr.full
        simp only [Nat.sub_self, Nat.zero_mul, List.replicate_zero, List.append_nil]
        rfl
  all_goals simp [ptrV]
end
end Go.Ab.Wave
namespace Go.Ab.Wave
open Go Go.Ab
def prepE (P : Par) : Int := if checkG P.w P.h P.s P.l = 0 then (if inS P.slo P.shi (-20000) 20000 = true then checkM P.k0 P.k1 P.l0 P.l1 P.o0 P.o1 else 3) else checkG P.w P.h P.s P.l
theorem inS_iff {lo hi a b : Int} : inS lo hi a b = true ↔ a ≤ lo ∧ lo ≤ hi ∧ hi ≤ b := by
  unfold inS; simp; omega
theorem prep_ok {P : Par} (h : prepE P = 0) (hs : P.l.length ≤ 40) : POk P := by
  unfold prepE at h
  split at h
  · rename_i h1
    split at h
    · rename_i h2
      unfold checkM at h
      split at h
      · cases h
      · rename_i h3
        simp only [not_or, Bool.not_eq_false, inS_iff] at h3
        rw [inS_iff] at h2
        exact ⟨h1, ⟨h2.1, h2.2.1, h2.2.2⟩, h3.1, h3.2.1, h3.2.2, hs⟩
    · cases h
  · rename_i h1; exact absurd h h1
section
variable {g : Nat} {A : Hp} {V : Value → Hp → Prop} {P : Par} {zs : List Int} {n : Nat} {sls : Value}
theorem w44 (hgr : groundOf A P.sl = some P.l) (hg : g ≤ A.n) (hQ : ∀ A', Ext' A A' → V (.int .i64 (prepE P)) A') : WF AP KL g 44 [gridV P.w P.h P.s P.sl, spn P.slo P.shi, modelV P.k0 P.k1 P.l0 P.l1 P.o0 P.o1] A V := by
  obtain ⟨B, hB⟩ : ∃ B, B = ((A.push (.cells [.int .i64 P.w, .int .i64 P.h, .int .i64 P.s, P.sl] false)).push (.cells [.int .i64 P.slo, .int .i64 P.shi] false)).push (.cells [.int .i64 P.k0, .int .i64 P.k1, .int .i64 P.l0, .int .i64 P.l1, .int .i64 P.o0, .int .i64 P.o1] false) := ⟨_, rfl⟩
  have kB : Ext' A B := by rw [hB]; exact ((Ext'.push _ _).trans (Ext'.push _ _)).trans (Ext'.push _ _)
  have b4 : B.get A.n = some (.cells [.int .i64 P.w, .int .i64 P.h, .int .i64 P.s, P.sl] false) := by rw [hB]; exact push3_a
  have b5 : B.get (A.n + 1) = some (.cells [.int .i64 P.slo, .int .i64 P.shi] false) := by rw [hB]; exact push3_b
  have b6 : B.get (A.n + 2) = some (.cells [.int .i64 P.k0, .int .i64 P.k1, .int .i64 P.l0, .int .i64 P.l1, .int .i64 P.o0, .int .i64 P.o1] false) := by rw [hB]; exact push3_c
  have hgB := groundOf_mono hgr kB.2
  have hq := hQ B kB
  unfold prepE at hq
  rw [WF_body rfl (show AP 44 = some F44 from rfl)]
  by_cases h1 : checkG P.w P.h P.s P.l = 0
  · by_cases h2 : inS P.slo P.shi (-20000) 20000 = true
    · simp (disch := as_aux_lemma => first | omega | simp only [hDs] <;> omega | simp [isCell]) [hRs, takeMarks, resA, resAll, resOne, Value.cells, gridV, spn, modelV, J]
      rw [← hB]
      simp (disch := as_aux_lemma => first | omega | simp only [hDs] <;> omega | simp [isCell]) [hRs, takeMarks, resA, resAll, resOne, Value.cells, b4, b5, b6, WF_spec (show KL 37 = some S37 from rfl), S37_eq hgB, WF_spec (show KL 42 = some S42 from rfl), S42_eq, WF_spec (show KL 13 = some S13 from rfl), S13_eq, h1, h2]
      rw [if_pos h1, if_pos h2] at hq
      exact hq
    · simp (disch := as_aux_lemma => first | omega | simp only [hDs] <;> omega | simp [isCell]) [hRs, takeMarks, resA, resAll, resOne, Value.cells, gridV, spn, modelV, J]
      rw [← hB]
      simp (disch := as_aux_lemma => first | omega | simp only [hDs] <;> omega | simp [isCell]) [hRs, takeMarks, resA, resAll, resOne, Value.cells, b4, b5, b6, WF_spec (show KL 37 = some S37 from rfl), S37_eq hgB, WF_spec (show KL 42 = some S42 from rfl), S42_eq, WF_spec (show KL 13 = some S13 from rfl), S13_eq, h1, h2]
      rw [if_pos h1, if_neg h2] at hq
      exact hq
  · simp (disch := as_aux_lemma => first | omega | simp only [hDs] <;> omega | simp [isCell]) [hRs, takeMarks, resA, resAll, resOne, Value.cells, gridV, spn, modelV, J]
    rw [← hB]
    simp (disch := as_aux_lemma => first | omega | simp only [hDs] <;> omega | simp [isCell]) [hRs, takeMarks, resA, resAll, resOne, Value.cells, b4, b5, b6, WF_spec (show KL 37 = some S37 from rfl), S37_eq hgB, h1]
    rw [if_neg h1] at hq
    exact hq
end
end Go.Ab.Wave
namespace Go.Ab.Wave
open Go Go.Ab
section
variable {g : Nat} {A : Hp} {V : Value → Hp → Prop} {P : Par} {zs : List Int} {n : Nat} {sls : Value}
theorem RdS.low {k n : Nat} {cs : List Value} {sv : Value} (h : RdS A k n cs sv) : RdLow A k n A.n cs sv := by
  obtain ⟨h0, h | ⟨x, c, ro, h1, h2⟩⟩ := h
  · exact ⟨h0, .inl h⟩
  · exact ⟨h0, .inr ⟨x, c, ro, h1, h2, Hp.lt_of_get h2⟩⟩
end
end Go.Ab.Wave
namespace Go.Ab.Wave
open Go Go.Ab
def flat5 (tlo thi rlo rhi : Int) (cs : List Nat) : List Int := cs.flatMap fun (j : Nat) => [(j : Int), tlo, thi, rlo, rhi]
def nearC (w cell f : Int) (i k : Nat) : List Nat := (List.range' i k).filter fun j => decide (awayV w cell (j : Nat) ≤ f)
theorem nearRows_flat {w cell f tlo thi rlo rhi : Int} : ∀ (k i : Nat), nearRows w cell f tlo thi rlo rhi i k = ints (flat5 tlo thi rlo rhi (nearC w cell f i k))
  | 0, _ => rfl
  | k + 1, i => by
    simp only [nearRows, nearRows_flat k (i + 1), nearC, List.range'_succ]
    by_cases h : awayV w cell (i : Nat) ≤ f
    · rw [if_pos h, List.filter_cons_of_pos (by simpa using h)]
      rfl
    · rw [if_neg h, List.filter_cons_of_neg (by simpa using h)]
      rfl
theorem flat5_len {tlo thi rlo rhi : Int} {cs : List Nat} : (flat5 tlo thi rlo rhi cs).length = cs.length * 5 := by
  induction cs with
  | nil => rfl
  | cons x cs ih => simp [flat5] at ih ⊢; omega
theorem flat5_get {tlo thi rlo rhi : Int} : ∀ {cs : List Nat} {m : Nat} (h : m < cs.length), gi (flat5 tlo thi rlo rhi cs) (m * 5) = (cs[m] : Nat) ∧ gi (flat5 tlo thi rlo rhi cs) (m * 5 + 1) = tlo ∧ gi (flat5 tlo thi rlo rhi cs) (m * 5 + 2) = thi ∧ gi (flat5 tlo thi rlo rhi cs) (m * 5 + 3) = rlo ∧ gi (flat5 tlo thi rlo rhi cs) (m * 5 + 4) = rhi
  | x :: cs, 0, _ => ⟨rfl, rfl, rfl, rfl, rfl⟩
  | x :: cs, m + 1, h => by
    have := flat5_get (tlo := tlo) (thi := thi) (rlo := rlo) (rhi := rhi) (cs := cs) (m := m) (by simpa using h)
    have e : flat5 tlo thi rlo rhi (x :: cs) = [(x : Int), tlo, thi, rlo, rhi] ++ flat5 tlo thi rlo rhi cs := rfl
    have s : ∀ o, gi (flat5 tlo thi rlo rhi (x :: cs)) (5 + o) = gi (flat5 tlo thi rlo rhi cs) o := fun o => by rw [e]; exact gi_pre (pre := [(x : Int), tlo, thi, rlo, rhi])
    rw [show (m + 1) * 5 = 5 + m * 5 by omega, show 5 + m * 5 + 1 = 5 + (m * 5 + 1) by omega, show 5 + m * 5 + 2 = 5 + (m * 5 + 2) by omega, show 5 + m * 5 + 3 = 5 + (m * 5 + 3) by omega, show 5 + m * 5 + 4 = 5 + (m * 5 + 4) by omega, s, s, s, s, s]
    simpa using this
structure Src where
  k : Int
  c : Int
  cl : Int
  lo : Int
  hi : Int
def Src.v (S : Src) : Value := srcV S.k S.c S.cl S.lo S.hi
def Src.err (S : Src) (n : Nat) : Int := srcErr n S.k S.c S.cl S.lo S.hi
def srcC (P : Par) (S : Src) : List Nat := nearC P.w S.c (farK S.k S.cl) 0 P.l.length
def srcZ (P : Par) (S : Src) : List Int := flat5 S.lo S.hi (riseLo S.k (pw S.cl)) (riseHi S.k (pw S.cl)) (srcC P S)
theorem src_parts {n : Nat} {S : Src} (h : S.err n = 0) : (1 ≤ S.k ∧ S.k ≤ 3) ∧ (0 ≤ S.c ∧ S.c < n) ∧ (1 ≤ S.cl ∧ S.cl ≤ 10) ∧ (0 ≤ S.lo ∧ S.lo ≤ S.hi ∧ S.hi ≤ 1000000000) := by
  unfold Src.err srcErr at h
  split at h
  · cases h
  · rename_i h3
    split at h
    · cases h
    · rename_i h4
      split at h
      · cases h
      · rename_i h5
        simp only [Bool.or_eq_true, decide_eq_true_eq, not_or, Bool.not_eq_true', Bool.not_eq_false, inS_iff] at h3 h4 h5
        omega
theorem rise_ok {k cl : Int} (h1 : 1 ≤ cl) (h2 : cl ≤ 10) : 0 ≤ riseLo k (pw cl) ∧ riseLo k (pw cl) ≤ riseHi k (pw cl) ∧ riseHi k (pw cl) ≤ 5000 := by
  have : cl = 1 ∨ cl = 2 ∨ cl = 3 ∨ cl = 4 ∨ cl = 5 ∨ cl = 6 ∨ cl = 7 ∨ cl = 8 ∨ cl = 9 ∨ cl = 10 := by omega
  unfold riseLo riseHi
  rcases this with rfl | rfl | rfl | rfl | rfl | rfl | rfl | rfl | rfl | rfl <;> by_cases hk : k = 2 <;> simp only [hk, if_true, if_false] <;> decide
theorem src_ok {P : Par} {S : Src} (h : S.err P.l.length = 0) : StartOk P (srcZ P S) (srcC P S).length := by
  obtain ⟨p1, p2, p3, p4⟩ := src_parts h
  have hr := rise_ok (k := S.k) p3.1 p3.2
  refine ⟨flat5_len, fun i hi => ?_, fun i hi => ?_, fun i hi => ?_⟩
  · have := (flat5_get (tlo := S.lo) (thi := S.hi) (rlo := riseLo S.k (pw S.cl)) (rhi := riseHi S.k (pw S.cl)) hi).1
    unfold srcZ
    rw [this]
    have hm : (srcC P S)[i] ∈ srcC P S := List.getElem_mem hi
    have hm' : (srcC P S)[i] ∈ List.range' 0 P.l.length := (List.mem_filter.1 hm).1
    rw [List.mem_range'_1] at hm'
    omega
  · obtain ⟨_, e1, e2, _⟩ := flat5_get (tlo := S.lo) (thi := S.hi) (rlo := riseLo S.k (pw S.cl)) (rhi := riseHi S.k (pw S.cl)) hi
    unfold srcZ
    rw [e1, e2]; exact p4
  · obtain ⟨_, _, _, e1, e2⟩ := flat5_get (tlo := S.lo) (thi := S.hi) (rlo := riseLo S.k (pw S.cl)) (rhi := riseHi S.k (pw S.cl)) hi
    unfold srcZ
    rw [e1, e2]; exact hr
theorem srcC_len {P : Par} {S : Src} : (srcC P S).length ≤ P.l.length := by
  unfold srcC nearC
  have := List.length_filter_le (fun j => decide (awayV P.w S.c (j : Nat) ≤ farK S.k S.cl)) (List.range' 0 P.l.length)
  simpa using this
def oneE (P : Par) (S : Src) : Int := if prepE P = 0 then S.err P.l.length else prepE P
noncomputable def oneRes (P : Par) (S : Src) : List Int := if oneE P S = 0 then bounds P (srcZ P S) (srcC P S).length else []
theorem prep_chk {P : Par} (h : prepE P = 0) : checkG P.w P.h P.s P.l = 0 := by
  unfold prepE at h
  split at h
  · assumption
  · rename_i h1; exact absurd h h1
section
variable {g : Nat} {A : Hp} {V : Value → Hp → Prop} {P : Par} {S : Src}
theorem w39 (hgr : groundOf A P.sl = some P.l) (h0 : checkG P.w P.h P.s P.l = 0) (he : S.err P.l.length = 0)
    (hQ : ∀ A' sv, Ext' A A' → RdS A' 5 (srcC P S).length (ints (srcZ P S)) sv → V sv A') : WF AP KL g 39 [gridV P.w P.h P.s P.sl, S.v] A V := by
  have he' : startErr P.w P.h P.s P.l S.k S.c S.cl S.lo S.hi = 0 := by unfold startErr; rw [if_pos h0]; exact he
  have hc : startCells P.w P.h P.s P.l S.k S.c S.cl S.lo S.hi = ints (srcZ P S) := by
    unfold startCells
    rw [if_pos he', nearRows_flat]
    rfl
  rw [WF_spec (show KL 39 = some S39 from rfl)]
  have := S39_eq (g := g) (A := A) (sl := P.sl) hgr he'
  rw [hc] at this
  have e : S39 g [gridV P.w P.h P.s P.sl, S.v] A = _ := this
  rw [e]
  have hlen : (ints (srcZ P S)).length = (srcC P S).length * 5 := by rw [ints_length]; exact flat5_len
  have ha := accV_acc (A := A) (N := 0) (k := 5) (cs := ints (srcZ P S)) (by decide) ⟨_, by rw [hlen, Nat.mul_comm]⟩ (Nat.zero_le _)
  exact hQ _ _ ⟨outHp_n, fun x hx => outHp_old hx⟩ (ha.rd hlen (by decide))
theorem w16 (hs : P.l.length ≤ 40) (hgr : groundOf A P.sl = some P.l) (hg : g ≤ A.n)
    (hQ : ∀ A' sv, Ext' A A' → AccS A.n A' 8 (ints (oneRes P S)) sv → (oneE P S = 0 → SprOk P (srcZ P S) (srcC P S).length ∧ SprFin P (srcZ P S) (srcC P S).length) → V (.tuple ⟨[sv, .int .i64 (oneE P S)]⟩) A') :
    WF AP KL g 16 [gridV P.w P.h P.s P.sl, spn P.slo P.shi, modelV P.k0 P.k1 P.l0 P.l1 P.o0 P.o1, S.v] A V := by
  obtain ⟨B, hB⟩ : ∃ B, B = (((A.push (.cells [.int .i64 P.w, .int .i64 P.h, .int .i64 P.s, P.sl] false)).push (.cells [.int .i64 P.slo, .int .i64 P.shi] false)).push (.cells [.int .i64 P.k0, .int .i64 P.k1, .int .i64 P.l0, .int .i64 P.l1, .int .i64 P.o0, .int .i64 P.o1] false)).push (.cells [.int .i64 S.k, .int .i64 S.c, .int .i64 S.cl, .int .i64 S.lo, .int .i64 S.hi] false) := ⟨_, rfl⟩
  have kB : Ext' A B := by rw [hB]; exact (((Ext'.push _ _).trans (Ext'.push _ _)).trans (Ext'.push _ _)).trans (Ext'.push _ _)
  have b4 : B.get A.n = some (.cells [.int .i64 P.w, .int .i64 P.h, .int .i64 P.s, P.sl] false) := by rw [hB, get_push_old (by rw [push3_n]; omega)]; exact push3_a
  have b5 : B.get (A.n + 1) = some (.cells [.int .i64 P.slo, .int .i64 P.shi] false) := by rw [hB, get_push_old (by rw [push3_n]; omega)]; exact push3_b
  have b6 : B.get (A.n + 2) = some (.cells [.int .i64 P.k0, .int .i64 P.k1, .int .i64 P.l0, .int .i64 P.l1, .int .i64 P.o0, .int .i64 P.o1] false) := by rw [hB, get_push_old (by rw [push3_n]; omega)]; exact push3_c
  have b7 : B.get (A.n + 3) = some (.cells [.int .i64 S.k, .int .i64 S.c, .int .i64 S.cl, .int .i64 S.lo, .int .i64 S.hi] false) := by rw [hB]; exact get_push_new
  have nB : B.n = A.n + 4 := by rw [hB]; rfl
  have hgB := groundOf_mono hgr kB.2
  have bad : ∀ A' e, Ext' A A' → oneE P S = e → e ≠ 0 → V (.tuple ⟨[.slice none 0 0, .int .i64 e]⟩) A' := by
    intro A' e k h h0
    have := hQ A' (.slice none 0 0) k (.inl ⟨rfl, by unfold oneRes; rw [if_neg (by rw [h]; exact h0)]; rfl⟩) (fun h' => absurd (h ▸ h') h0)
    rw [h] at this
    exact this
  rw [WF_body rfl (show AP 16 = some F16 from rfl)]
  simp (disch := as_aux_lemma => first | omega | simp only [hDs] <;> omega | simp [isCell]) [hRs, takeMarks, resA, resAll, resOne, Value.cells, gridV, spn, modelV, J, Src.v, srcV]
  rw [← hB]
  refine w44 hgB (by omega) fun A1 k1 => ?_
  have c4 := k1.get b4
  have c5 := k1.get b5
  have c6 := k1.get b6
  have c7 := k1.get b7
  have n1 := k1.1
  have hg1 := groundOf_mono hgB k1.2
  by_cases h1 : prepE P = 0
  · have he : oneE P S = S.err P.l.length := by unfold oneE; rw [if_pos h1]
    have he' : S.err P.l.length = srcErr P.l.length S.k S.c S.cl S.lo S.hi := rfl
    by_cases h2 : srcErr P.l.length S.k S.c S.cl S.lo S.hi = 0
    · simp (disch := as_aux_lemma => first | omega | simp only [hDs] <;> omega | simp [isCell]) [hRs, takeMarks, resA, resAll, resOne, Value.cells, h1, c4, c7, WF_spec (show KL 38 = some S38 from rfl), S38_eq hg1, h2, c5, c6]
      have hst := src_ok (P := P) (S := S) h2
      have hok : SprOk P (srcZ P S) (srcC P S).length := SprOk.mk' (prep_ok h1 hs) hst
      have hl := srcC_len (P := P) (S := S)
      refine w39 hg1 (prep_chk h1) h2 fun A2 sv k2 hr => ?_
      simp (disch := as_aux_lemma => first | omega | simp only [hDs] <;> omega | simp [isCell]) [hRs, takeMarks, resA, resAll, resOne, Value.cells]
      have n2 := k2.1
      refine w45 hok (groundOf_mono hg1 k2.2) (by omega) (RdS.low hr) (by omega) fun A3 x k3 hx g3 hF => ?_
      simp (disch := as_aux_lemma => first | omega | simp only [hDs] <;> omega | simp [isCell]) [hRs, takeMarks, resA, resAll, resOne, Value.cells]
      have kA := (kB.trans k1).trans k2
      have h0 : oneE P S = 0 := by rw [he]; exact h2
      have hpos : 0 < P.l.length := hok.pl.pos
      have hlb : (ints (bounds P (srcZ P S) (srcC P S).length)).length = P.l.length * 8 := by rw [ints_length]; exact bounds_len
      have := hQ A3 (.slice (some ⟨x, 0, some 8⟩) P.l.length P.l.length) (kA.trans k3) (by
        unfold oneRes
        rw [if_pos h0]
        exact .inr ⟨x, P.l.length, rfl, g3, by have := kA.1; omega, hlb, hpos⟩) fun _ => ⟨hok, hF⟩
      rw [h0] at this
      exact this
    · simp (disch := as_aux_lemma => first | omega | simp only [hDs] <;> omega | simp [isCell]) [hRs, takeMarks, resA, resAll, resOne, Value.cells, h1, c4, c7, WF_spec (show KL 38 = some S38 from rfl), S38_eq hg1, h2]
      exact bad A1 _ (kB.trans k1) (by rw [he]; rfl) h2
  · simp (disch := as_aux_lemma => first | omega | simp only [hDs] <;> omega | simp [isCell]) [hRs, takeMarks, resA, resAll, resOne, Value.cells, h1]
    exact bad A1 _ (kB.trans k1) (by unfold oneE; rw [if_neg h1]) h1
end
end Go.Ab.Wave
namespace Go.Ab.Wave
open Go Go.Ab
def body19b : ACode := (.seq
 (.ops [
oB 63 .lss 62 61])
 (.seq
 (.cond (.t 63)
 .skip
 (.exit 2))
 (.seq
 (.block 3
 (.seq
 (.ops [
oI 64 60 62 5,
oD 65 64 5,
oP 16 (.alloc [.int .i64 0, .int .i64 0, .int .i64 0, .int .i64 0, .int .i64 0]),
oT 16 65 5])
 (.seq
 (.ops [
oD 66 4 4,
oD 67 5 2,
oD 68 6 6,
oD 69 4 4,
oD 70 16 5,
oA 71 39 [.t 69, .t 70] true,
oA 72 45 [.t 66, .t 67, .t 68, .t 71] false,
oP 73 (.len (.t 72)),
oP 74 (.move (oK 0))])
 (.block 4
 (.loop
 body19c)))))
 (.ops [
oC 123 .add 62 1,
oM 62 123]))))
def joinAt (a b : List Int) (j : Nat) : Int := if j % 2 = 0 then min (gi a j) (gi b j) else max (gi a j) (gi b j)
def mixL (a b : List Int) (m i : Nat) : List Int := (List.range m).map fun j => if j < i * 8 then joinAt a b j else gi a j
def joinL (a b : List Int) (m : Nat) : List Int := (List.range m).map fun j => joinAt a b j
theorem mixL_len {a b : List Int} {m i : Nat} : (mixL a b m i).length = m := by simp [mixL]
theorem joinL_len {a b : List Int} {m : Nat} : (joinL a b m).length = m := by simp [joinL]
theorem mixL_get {a b : List Int} {m i j : Nat} (h : j < m) : gi (mixL a b m i) j = if j < i * 8 then joinAt a b j else gi a j := by
  rw [gi_eq (by rw [mixL_len]; exact h)]; simp [mixL]
theorem joinL_get {a b : List Int} {m j : Nat} (h : j < m) : gi (joinL a b m) j = joinAt a b j := by
  rw [gi_eq (by rw [joinL_len]; exact h)]; simp [joinL]
theorem mixL_zero {a b : List Int} {m : Nat} (ha : a.length = m) : mixL a b m 0 = a := gi_ext mixL_len ha fun j hj => by rw [mixL_get hj, if_neg (by omega)]
theorem mixL_all {a b : List Int} {n : Nat} : mixL a b (n * 8) n = joinL a b (n * 8) := gi_ext mixL_len joinL_len fun j hj => by rw [mixL_get hj, joinL_get hj, if_pos hj]
def set8 (l : List Int) (o : Nat) (v0 v1 v2 v3 v4 v5 v6 v7 : Int) : List Int :=
  (((((((l.set o v0).set (o + 1) v1).set (o + 2) v2).set (o + 2 + 1) v3).set (o + 4) v4).set (o + 4 + 1) v5).set (o + 6) v6).set (o + 6 + 1) v7
theorem mixL_next {a b : List Int} {n i : Nat} (hi : i < n) :
    set8 (mixL a b (n * 8) i) (i * 8) (joinAt a b (i * 8)) (joinAt a b (i * 8 + 1)) (joinAt a b (i * 8 + 2)) (joinAt a b (i * 8 + 3)) (joinAt a b (i * 8 + 4)) (joinAt a b (i * 8 + 5)) (joinAt a b (i * 8 + 6)) (joinAt a b (i * 8 + 7)) = mixL a b (n * 8) (i + 1) := by
  have hl : (mixL a b (n * 8) i).length = n * 8 := mixL_len
  refine gi_ext (n := n * 8) (by unfold set8; simp [hl]) mixL_len fun j hj => ?_
  unfold set8
  rw [gi_set (by simp [hl]; omega), gi_set (by simp [hl]; omega), gi_set (by simp [hl]; omega), gi_set (by simp [hl]; omega), gi_set (by simp [hl]; omega), gi_set (by simp [hl]; omega), gi_set (by simp [hl]; omega), gi_set (by simp [hl]; omega), mixL_get hj, mixL_get hj]
  by_cases h1 : j < i * 8
  · repeat (rw [if_neg (by omega)])
    rw [if_pos h1, if_pos (by omega)]
  · by_cases h2 : i * 8 + 8 ≤ j
    · repeat (rw [if_neg (by omega)])
    · rw [if_neg h1, if_pos (show j < (i + 1) * 8 by omega)]
      obtain ⟨r, hr, h8⟩ : ∃ r, j = i * 8 + r ∧ r < 8 := ⟨j - i * 8, by omega, by omega⟩
      subst hr
      rcases r with _ | _ | _ | _ | _ | _ | _ | _ | r
      · repeat (rw [if_neg (by omega)])
        rw [if_pos (by omega)]; rfl
      · repeat (rw [if_neg (by omega)])
        rw [if_pos (by omega)]
      · repeat (rw [if_neg (by omega)])
        rw [if_pos (by omega)]
      · repeat (rw [if_neg (by omega)])
        rw [if_pos (by omega)]
      · repeat (rw [if_neg (by omega)])
        rw [if_pos (by omega)]
      · repeat (rw [if_neg (by omega)])
        rw [if_pos (by omega)]
      · repeat (rw [if_neg (by omega)])
        rw [if_pos (by omega)]
      · rw [if_pos (by omega)]
      · omega
section
variable {g : Nat} {A : Hp} {V : Value → Hp → Prop}
theorem set_push_eq {x : Nat} {b b' : ABlk} (h : x ≤ A.n ∧ A.n ≤ x) : (A.push b).set x (some b') = A.push b' := by rw [show x = A.n by omega, set_push_new]
theorem w47 {a b c d : Int} (hg : g ≤ A.n) (hQ : ∀ A', Ext' A A' → V (spn (min a c) (max b d)) A') : WF AP KL g 47 [spn a b, spn c d] A V := by
  rw [WF_body rfl (show AP 47 = some F47 from rfl)]
  simp (disch := as_aux_lemma => first | omega | simp only [hDs] <;> omega | simp [isCell]) [hRs, takeMarks, resA, resAll, resOne, Value.cells, spn, storeB_cells, setRange_all, fillA, setRange, set_push_eq]
  exact hQ _ (((Ext'.push _ _).trans (Ext'.push _ _)).trans (Ext'.push _ _))
theorem storeB_two {l : List Int} {x o : Nat} {v v' : Int} (h : o + 2 ≤ l.length) (hg : g ≤ x) : storeB (some (.cells (ints l) false)) g A x o [.int .i64 v, .int .i64 v'] 2 = some (undef, A.set x (some (.cells (ints ((l.set o v).set (o + 1) v')) false))) := by
  have := storeB_cells (A := A) (g := g) (k := x) (o := o) (size := 2) (cs := ints l) (vs := [.int .i64 v, .int .i64 v']) rfl hg (by rw [ints_length]; omega) rfl
  rw [this]
  congr 5
  unfold setRange ints
  apply List.ext_getElem?
  intro i
  rw [List.getElem?_map, List.getElem?_set, List.getElem?_set]
  by_cases h1 : i < o
  · rw [List.append_assoc, List.getElem?_append_left (by simp; omega), List.getElem?_take]
    simp [h1, show ¬ o + 1 = i by omega, show ¬ o = i by omega]
  · by_cases h2 : i = o
    · subst h2
      simp [List.getElem?_append, show i < l.length by omega, Nat.min_eq_left (show i ≤ l.length by omega)]
    · by_cases h3 : i = o + 1
      · subst h3
        simp [List.getElem?_append, show o + 1 < l.length by omega, Nat.min_eq_left (show o ≤ l.length by omega)]
      · rw [List.getElem?_append_right (by simp; omega)]
        simp [Nat.min_eq_left (show o ≤ l.length by omega), show o + 2 + (i - (o + 2)) = i by omega, show ¬ o + 1 = i by omega, show ¬ o = i by omega]
end
end Go.Ab.Wave
namespace Go.Ab.Wave
open Go Go.Ab
theorem joinAt_even {a b : List Int} {i r : Nat} (h : r % 2 = 0) : joinAt a b (i * 8 + r) = min (gi a (i * 8 + r)) (gi b (i * 8 + r)) := by
  unfold joinAt; rw [if_pos (by omega)]
theorem joinAt_odd {a b : List Int} {i r : Nat} (h : r % 2 = 1) : joinAt a b (i * 8 + r) = max (gi a (i * 8 + r)) (gi b (i * 8 + r)) := by
  unfold joinAt; rw [if_neg (by omega)]
section
variable {g : Nat} {D : List Nat} {rd : Option Nat} {Q : Ex → St → Prop}
theorem loop19c {A0 : Hp} {a b : List Int} {n x y cy : Nat} {T0 : List Value} (hn : n < 1000000) (ha : a.length = n * 8) (hb : b.length = n * 8) (hxy : x ≠ y) (hg : g ≤ x)
    (hQ : ∀ T' A', Keep (fun z => z = x) A0 A' → A'.get x = some (.cells (ints (joinL a b (n * 8))) false) → (∀ i, (i < 16 ∨ (60 ≤ i ∧ i < 63)) → tget T' i = tget T0 i) → Q (.exit 4) ⟨T', D, A'⟩) :
    ∀ (k i : Nat) (T : List Value) (A : Hp), i + k = n → Keep (fun z => z = x) A0 A → A.get x = some (.cells (ints (mixL a b (n * 8) i)) false) → A.get y = some (.cells (ints b) false) → (∀ i, (i < 16 ∨ (60 ≤ i ∧ i < 63)) → tget T i = tget T0 i) →
      tget T0 14 = .slice (some ⟨x, 0, some 8⟩) n n → tget T 72 = .slice (some ⟨y, 0, some 8⟩) n cy → tget T 73 = .int .i64 n → tget T 74 = .int .i64 i → W AP KL g rd (.loop body19c) ⟨T, D, A⟩ Q := by
  intro k
  induction k with
  | zero =>
    intro i T A hi hk hx hy hT t14 t72 t73 t74
    have : i = n := by omega
    subst this
    rw [W_loop]
    simp (disch := as_aux_lemma => first | omega | simp only [hDs] <;> omega | simp [isCell]) [hRs, takeMarks, resA, resAll, resOne, Value.cells, body19c, t73, t74]
    refine hQ _ A hk (by rw [hx, mixL_all]) fun j hj => ?_
    simp only [tget_tset]
    rw [if_neg (by omega)]
    exact hT j hj
  | succ k ih =>
    intro i T A hi hk hx hy hT t14' t72 t73 t74
    have t14 := (hT 14 (by omega)).trans t14'
    have hin : i < n := by omega
    have hxn := Hp.lt_of_get hx
    have hyn := Hp.lt_of_get hy
    have hml : (mixL a b (n * 8) i).length = n * 8 := mixL_len
    have mg : ∀ r, r < 8 → gi (mixL a b (n * 8) i) (i * 8 + r) = gi a (i * 8 + r) := fun r hr => by rw [mixL_get (by omega), if_neg (by omega)]
    have m0 : gi (mixL a b (n * 8) i) (i * 8) = gi a (i * 8) := mg 0 (by omega)
    have m1 := mg 1 (by omega)
    have m2 := mg 2 (by omega)
    have m3 : gi (mixL a b (n * 8) i) (i * 8 + 2 + 1) = gi a (i * 8 + 3) := mg 3 (by omega)
    have m4 := mg 4 (by omega)
    have m5 : gi (mixL a b (n * 8) i) (i * 8 + 4 + 1) = gi a (i * 8 + 5) := mg 5 (by omega)
    have m6 := mg 6 (by omega)
    have m7 : gi (mixL a b (n * 8) i) (i * 8 + 6 + 1) = gi a (i * 8 + 7) := mg 7 (by omega)
    obtain ⟨B, hB⟩ : ∃ B, B = A.push (.cells [.int .i64 (gi b (i * 8)), .int .i64 (gi b (i * 8 + 1)), .int .i64 (gi b (i * 8 + 2)), .int .i64 (gi b (i * 8 + 3)), .int .i64 (gi b (i * 8 + 4)), .int .i64 (gi b (i * 8 + 5)), .int .i64 (gi b (i * 8 + 6)), .int .i64 (gi b (i * 8 + 7))] false) := ⟨_, rfl⟩
    have kB : Ext' A B := by rw [hB]; exact Ext'.push _ _
    have gB : B.get A.n = some (.cells [.int .i64 (gi b (i * 8)), .int .i64 (gi b (i * 8 + 1)), .int .i64 (gi b (i * 8 + 2)), .int .i64 (gi b (i * 8 + 3)), .int .i64 (gi b (i * 8 + 4)), .int .i64 (gi b (i * 8 + 5)), .int .i64 (gi b (i * 8 + 6)), .int .i64 (gi b (i * 8 + 7))] false) := by rw [hB]; exact get_push_new
    have hxB := kB.get hx
    rw [W_loop]
    simp (disch := as_aux_lemma => first | omega | simp only [hDs] <;> omega | simp [isCell]) [hRs, takeMarks, resA, resAll, resOne, Value.cells, body19c, t73, t74, t72, show (i : Int) < (n : Int) by omega, idxSA_ok, hy, ints_8, cellsFrom, storeB_cells, setRange_all]
    rw [← hB]
    simp (disch := as_aux_lemma => first | omega | simp only [hDs] <;> omega | simp [isCell]) [hRs, takeMarks, resA, resAll, resOne, Value.cells, t14, idxSA_ok, show (i : Int) < (n : Int) by omega, hxB, ints_two, gB, m0, m1]
    refine w47 (by omega) fun A1 k1 => ?_
    have gx1 := k1.get hxB
    have gy1 := k1.get gB
    simp (disch := as_aux_lemma => first | omega | simp only [hDs] <;> omega | simp [isCell]) [hRs, takeMarks, resA, resAll, resOne, Value.cells, gx1, gy1, ints_two, m2, m3]
    refine w47 (by omega) fun A2 k2 => ?_
    have gx2 := k2.get gx1
    have gy2 := k2.get gy1
    simp (disch := as_aux_lemma => first | omega | simp only [hDs] <;> omega | simp [isCell]) [hRs, takeMarks, resA, resAll, resOne, Value.cells, gx2, gy2, ints_two, m4, m5]
    refine w47 (by omega) fun A3 k3 => ?_
    have gx3 := k3.get gx2
    have gy3 := k3.get gy2
    simp (disch := as_aux_lemma => first | omega | simp only [hDs] <;> omega | simp [isCell]) [hRs, takeMarks, resA, resAll, resOne, Value.cells, gx3, gy3, ints_two, m6, m7]
    refine w47 (by have := k1.1; have := k2.1; have := k3.1; have := kB.1; omega) fun A4 k4 => ?_
    have gx4 := k4.get gx3
    have gy4 := k4.get gy3
    have hx4 := Hp.lt_of_get gx4
    have sm : ∀ b, (A4.set x b).get x = b := fun b => get_set_same gx4
    have c1 : (mixL a b (n * 8) i).length = n * 8 := hml
    simp (disch := first | omega | (simp only [List.length_set]; omega)) [spn, gx4, sm, set_set, storeB_two, t74, Value.cells]
    have e := mixL_next (a := a) (b := b) hin
    have e0 : joinAt a b (i * 8) = min (gi a (i * 8)) (gi b (i * 8)) := joinAt_even (r := 0) (by omega)
    have e1 : joinAt a b (i * 8 + 1) = max (gi a (i * 8 + 1)) (gi b (i * 8 + 1)) := joinAt_odd (by omega)
    have e2 : joinAt a b (i * 8 + 2) = min (gi a (i * 8 + 2)) (gi b (i * 8 + 2)) := joinAt_even (by omega)
    have e3 : joinAt a b (i * 8 + 3) = max (gi a (i * 8 + 3)) (gi b (i * 8 + 3)) := joinAt_odd (by omega)
    have e4 : joinAt a b (i * 8 + 4) = min (gi a (i * 8 + 4)) (gi b (i * 8 + 4)) := joinAt_even (by omega)
    have e5 : joinAt a b (i * 8 + 5) = max (gi a (i * 8 + 5)) (gi b (i * 8 + 5)) := joinAt_odd (by omega)
    have e6 : joinAt a b (i * 8 + 6) = min (gi a (i * 8 + 6)) (gi b (i * 8 + 6)) := joinAt_even (by omega)
    have e7 : joinAt a b (i * 8 + 7) = max (gi a (i * 8 + 7)) (gi b (i * 8 + 7)) := joinAt_odd (by omega)
    rw [e0, e1, e2, e3, e4, e5, e6, e7] at e
    have kA : Ext' A A4 := (((kB.trans k1).trans k2).trans k3).trans k4
    refine ih (i + 1) _ _ (by omega) (Keep.put' (hk.trans (kA.keep _)) hx4 rfl) ((sm _).trans ?_) ?_ ?_ t14' ?_ ?_ ?_
    · rw [← e]; rfl
    · rw [get_set_ne hx4 (fun h => hxy h.symm)]; exact kA.get hy
    · intro j hj
      simp only [tget_tset]
      repeat (rw [if_neg (by omega)])
      exact hT j hj
    · simp [t72]
    · simp [t73]
    · simp [wrId (n := (i : Int) + 1) (by omega) (by omega)]
end
end Go.Ab.Wave
