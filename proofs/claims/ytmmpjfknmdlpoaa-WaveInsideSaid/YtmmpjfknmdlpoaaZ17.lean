/- Sheets that are better everywhere. -/
import Derived.Test.YtmmpjfknmdlpoaaZ16
set_option linter.unusedSimpArgs false
set_option linter.unusedVariables false
set_option linter.unusedSectionVars false
namespace Go.Ab.Wave
open Go Go.Ab
structure SheetFin (P : Par) (zs : List Int) (n : Nat) : Prop where
  arr : (PA P).FinV (arr0 P zs n) (arrF P zs n)
  str : (PS P).FinV (str0 P zs n) (strF P zs n)
  srf : (PU P).Fin (srfK P (arrF P zs n) (strF P zs n) P.l.length) (List.replicate P.l.length (-Never)) (srfF P (arrF P zs n) (strF P zs n)).1 (srfF P (arrF P zs n) (strF P zs n)).2
  lnd : (PL P (srfF P (arrF P zs n) (strF P zs n)).1).FinV (arrF P zs n) (arrL P (arrF P zs n) (strF P zs n))
theorem arr0_sea {P : Par} {zs : List Int} {n : Nat} (hz : StartOk P zs n) : ∀ k, k ≤ n → ∀ c, c < P.l.length → gi (arr0 P zs k) c < Never → 1 ≤ P.dep c := by
  intro k
  induction k with
  | zero =>
    intro _ c hc h
    have : gi (arr0 P zs 0) c = Never := gi_replicate hc
    omega
  | succ k ih =>
    intro hk c hc h
    have e : arr0 P zs (k + 1) = stA P zs (arr0 P zs k) k := by unfold arr0; rw [List.range_succ, List.foldl_append]; rfl
    have hl := (arr0_ok hz k (by omega)).1
    have hcl : stC zs k < P.l.length := by have := hz.cell k (by omega); unfold stC; omega
    rw [e] at h
    unfold stA at h
    split at h
    · rename_i hd
      rw [gi_set (by omega)] at h
      split at h
      · rename_i hcc; rw [hcc]; exact hd
      · exact ih (by omega) c hc h
    · exact ih (by omega) c hc h
theorem arr_sea {P : Par} {zs : List Int} {n : Nat} (hz : StartOk P zs n) {b : Nat} {v : Int} (h : (PA P).Der (arr0 P zs n) b v) : v < Never → 1 ≤ P.dep b := by
  intro hv
  cases h with
  | init hb => exact arr0_sea hz n (Nat.le_refl _) b hb hv
  | step ha _ hb hs => exact (open_dep (spA_true hs).1).2
theorem sailOk {P : Par} {zs : List Int} {n : Nat} (hP : POk P) (hz : StartOk P zs n) (h1 : (PA P).FinV (arr0 P zs n) (arrF P zs n)) (h2 : (PS P).FinV (str0 P zs n) (strF P zs n)) : SailOk P (arrF P zs n) (strF P zs n) := by
  refine ⟨fun c hc => ⟨h1.mid.val c hc, fun hN => ⟨?_, arr_sea hz (h1.mid.der c hc) hN⟩⟩, fun c hc => h2.mid.val c hc⟩
  have hg : GA 1000000000 32000000 (arrF P zs n) := h1.mid.glob
  have hl : (arrF P zs n).length = P.l.length := h1.mid.nv
  have := hg c (by omega) hN
  have hf := fin_le (arrF P zs n)
  have hs := hP.small
  have hm : (fin (arrF P zs n) : Int) * 32000000 ≤ 40 * 32000000 := Int.mul_le_mul_of_nonneg_right (by omega) (by omega)
  omega
section
variable {g : Nat} {A : Hp} {V : Value → Hp → Prop}
theorem w61 (hg : g ≤ A.n) (hQ : ∀ A', Ext' A A' → V (endV false) A') : WF AP KL g 61 [] A V := by
  rw [WF_body rfl (show AP 61 = some F61 from rfl)]
  simp (disch := as_aux_lemma => first | omega | simp only [hDs] <;> omega | simp [isCell]) [hRs, takeMarks, resA, resAll, resOne, Value.cells, storeB_cells, setRange_all, fillA, setRange]
  exact hQ _ (Ext'.push _ _)
theorem w62 (hg : g ≤ A.n) (hQ : ∀ A', Ext' A A' → V (endV true) A') : WF AP KL g 62 [] A V := by
  rw [WF_body rfl (show AP 62 = some F62 from rfl)]
  simp (disch := as_aux_lemma => first | omega | simp only [hDs] <;> omega | simp [isCell]) [hRs, takeMarks, resA, resAll, resOne, Value.cells, storeB_cells, setRange_all, fillA, setRange]
  exact hQ _ (Ext'.push _ _)
theorem w60 {P : Par} {zs : List Int} {n : Nat} {sls : Value} (hP : POk P) (hgr : groundOf A P.sl = some P.l) (hz : StartOk P zs n) (hn : n < 1000000) (hr : RdLow A 5 n A.n (ints zs) sls) (hg : g ≤ A.n)
    (hQ : ∀ A' X ra rs ru rl, Ext' A A' → A.n ≤ ra → Sheet A' P X ra rs ru rl (arrL P (arrF P zs n) (strF P zs n)) (strF P zs n) (srfF P (arrF P zs n) (strF P zs n)).1 (srfF P (arrF P zs n) (strF P zs n)).2 → SheetFin P zs n → V (ptrV X) A') :
    WF AP KL g 60 [endV P.up, gridV P.w P.h P.s P.sl, spn P.slo P.shi, modelV P.k0 P.k1 P.l0 P.l1 P.o0 P.o1, sls] A V := by
  have hsm := hP.small
  have hpos := hP.pos
  have hlen : lenV P.sl = some (.int .i64 P.l.length) := by
    rcases (groundOf_cases hgr).2 with ⟨h1, h2⟩ | ⟨x, cap, ro, h1, _⟩
    · rw [h1, h2]; rfl
    · rw [h1]; rfl
  rw [WF_body rfl (show AP 60 = some F60 from rfl)]
  simp (disch := as_aux_lemma => first | omega | simp only [hDs] <;> omega | simp [isCell]) [hRs, takeMarks, resA, resAll, resOne, Value.cells, endV, gridV, spn, modelV, hlen, J, fillA, setRange, slitA]
  obtain ⟨B1, hB1⟩ : ∃ B1, B1 = ((((A.push (.cells [rF P.up, dF P.up, rF !P.up, .bool P.up] false)).push (.cells [.int .i64 P.w, .int .i64 P.h, .int .i64 P.s, P.sl] false)).push (.cells [.int .i64 P.slo, .int .i64 P.shi] false)).push (.cells [.int .i64 P.k0, .int .i64 P.k1, .int .i64 P.l0, .int .i64 P.l1, .int .i64 P.o0, .int .i64 P.o1] false)).push (.cells [.int .i64 Never] false) := ⟨_, rfl⟩
  have hB1' := hB1
  unfold Never at hB1'
  have kB1 : Ext' A B1 := by rw [hB1]; exact ((((Ext'.push _ _).trans (Ext'.push _ _)).trans (Ext'.push _ _)).trans (Ext'.push _ _)).trans (Ext'.push _ _)
  have nB1 : B1.n = A.n + 5 := by rw [hB1]; rfl
  have gB1 : B1.get (A.n + 4) = some (.cells [.int .i64 Never] false) := by rw [hB1]; exact get_push_new
  rw [← hB1']
  refine w83 (b := A.n + 4) (n := P.l.length) (v := Never) hpos hsm gB1 (by omega) fun C1 kC1 nC1 gC1 => ?_
  simp (disch := as_aux_lemma => first | omega | simp only [hDs] <;> omega | simp [isCell]) [hRs, takeMarks, resA, resAll, resOne, Value.cells, makeS_ok (show P.l.length < 1000000 by omega), rowS1, fillA, setRange, slitA]
  obtain ⟨B2, hB2⟩ : ∃ B2, B2 = (C1.push (.cells (ints (List.replicate P.l.length 0)) false)).push (.cells [.int .i64 (-Never)] false) := ⟨_, rfl⟩
  have hB2' := hB2
  unfold Never at hB2'
  have kB2 : Ext' C1 B2 := by rw [hB2]; exact (Ext'.push _ _).trans (Ext'.push _ _)
  have nB2 : B2.n = C1.n + 2 := by rw [hB2]; rfl
  have gB2 : B2.get (C1.n + 1) = some (.cells [.int .i64 (-Never)] false) := by rw [hB2]; exact get_push_new
  have gS2 : B2.get C1.n = some (.cells (ints (List.replicate P.l.length 0)) false) := by rw [hB2]; exact push2_a
  rw [← hB2']
  refine w83 (b := C1.n + 1) (n := P.l.length) (v := -Never) hpos hsm gB2 (by omega) fun C2 kC2 nC2 gC2 => ?_
  simp (disch := as_aux_lemma => first | omega | simp only [hDs] <;> omega | simp [isCell]) [hRs, takeMarks, resA, resAll, resOne, Value.cells, fillA, setRange, slitA, rowS1]
  obtain ⟨B3, hB3⟩ : ∃ B3, B3 = C2.push (.cells [.int .i64 (-Never)] false) := ⟨_, rfl⟩
  have hB3' := hB3
  unfold Never at hB3'
  have kB3 : Ext' C2 B3 := by rw [hB3]; exact Ext'.push _ _
  have nB3 : B3.n = C2.n + 1 := by rw [hB3]; rfl
  have gB3 : B3.get C2.n = some (.cells [.int .i64 (-Never)] false) := by rw [hB3]; exact get_push_new
  rw [← hB3']
  refine w83 (b := C2.n) (n := P.l.length) (v := -Never) hpos hsm gB3 (by omega) fun C3 kC3 nC3 gC3 => ?_
  simp (disch := as_aux_lemma => first | omega | simp only [hDs] <;> omega | simp [isCell]) [hRs, takeMarks, resA, resAll, resOne, Value.cells, fillA, setRange, rowS1]
  obtain ⟨D, hD⟩ : ∃ D, D = C3.push (.cells (shCells P B1.n C1.n B2.n B3.n) false) := ⟨_, rfl⟩
  have hD' := hD
  simp only [shCells, rowS1] at hD'
  rw [← hD']
  have kD : Ext' C3 D := by rw [hD]; exact Ext'.push _ _
  have gD : D.get C3.n = some (.cells (shCells P B1.n C1.n B2.n B3.n) false) := by rw [hD]; exact get_push_new
  have kA : Ext' A D := kB1.trans (kC1.trans (kB2.trans (kC2.trans (kB3.trans (kC3.trans kD)))))
  have hSh : Sheet D P C3.n B1.n C1.n B2.n B3.n (List.replicate P.l.length Never) (List.replicate P.l.length 0) (List.replicate P.l.length (-Never)) (List.replicate P.l.length (-Never)) := by
    refine ⟨gD, kD.get (kC3.get (kB3.get (kC2.get (kB2.get gC1)))), kD.get (kC3.get (kB3.get (kC2.get gS2))), kD.get (kC3.get (kB3.get gC2)), kD.get gC3, by simp, by simp, by simp, by simp, groundOf_mono hgr kA.2, by omega, fun x o k n' c e => ?_⟩
    rcases (groundOf_cases hgr).2 with ⟨h1, h2⟩ | ⟨x', cap, ro, h1, h2⟩
    · rw [h1] at e; cases e
    · rw [h1] at e
      cases e
      have := Hp.lt_of_get h2
      omega
  have hr' : RdLow D 5 n B1.n (ints zs) sls := by
    obtain ⟨h0, h | ⟨x, c, ro, h1, h2, h3⟩⟩ := hr
    · exact ⟨h0, .inl h⟩
    · exact ⟨h0, .inr ⟨x, c, ro, h1, kA.get h2, by omega⟩⟩
  refine w84 hSh hP hz hn (by omega) hr' fun E kE hE hA hS => ?_
  simp (disch := as_aux_lemma => first | omega | simp only [hDs] <;> omega | simp [isCell]) [hRs, takeMarks, resA, resAll, resOne, Value.cells]
  have hO := sailOk hP hz hA hS
  refine w85 hE hP hO (by omega) fun F kF hF hU hL => ?_
  simp (disch := as_aux_lemma => first | omega | simp only [hDs] <;> omega | simp [isCell]) [hRs, takeMarks, resA, resAll, resOne, Value.cells]
  have kEF := kE.trans kF
  refine hQ F C3.n B1.n C1.n B2.n B3.n ⟨by have := kEF.1; have := kA.1; omega, fun x hx => ?_⟩ (by omega) hF ⟨hA, hS, hU, hL⟩
  rw [kEF.2 x (by have := kA.1; omega) (by unfold KP; omega), kA.2 x hx]
end
end Go.Ab.Wave
namespace Go.Ab.Wave
open Go Go.Ab
section
variable {A : Hp} {g x o : Nat} {pre post : List Int} {a0 a1 a2 a3 a4 a5 a6 a7 v v' : Int}
def row8 (pre : List Int) (a0 a1 a2 a3 a4 a5 a6 a7 : Int) (post : List Int) : List Int := pre ++ (a0 :: a1 :: a2 :: a3 :: a4 :: a5 :: a6 :: a7 :: post)
theorem gi_pre {j : Nat} {l : List Int} : gi (pre ++ l) (pre.length + j) = gi l j := by
  unfold gi
  rw [List.getD_eq_getElem?_getD, List.getD_eq_getElem?_getD, List.getElem?_append_right (by omega), show pre.length + j - pre.length = j by omega]
theorem set_pre {j : Nat} {l : List Int} : (pre ++ l).set (pre.length + j) v = pre ++ l.set j v := by
  rw [List.set_append]
  rw [if_neg (by omega)]
  congr 2
  omega
theorem row8_len : (row8 pre a0 a1 a2 a3 a4 a5 a6 a7 post).length = pre.length + 8 + post.length := by simp [row8]; omega
theorem rowGet2 (h : o ≤ pre.length + 2 ∧ pre.length + 2 ≤ o) : cellAt (ints (row8 pre a0 a1 a2 a3 a4 a5 a6 a7 post)) o = some (.int .i64 a2) := by
  rw [ints_get (by rw [row8_len]; omega), show o = pre.length + 2 by omega]; unfold row8; rw [gi_pre]; rfl
theorem rowGet3 (h : o ≤ pre.length + 3 ∧ pre.length + 3 ≤ o) : cellAt (ints (row8 pre a0 a1 a2 a3 a4 a5 a6 a7 post)) o = some (.int .i64 a3) := by
  rw [ints_get (by rw [row8_len]; omega), show o = pre.length + 3 by omega]; unfold row8; rw [gi_pre]; rfl
theorem rowGet4 (h : o ≤ pre.length + 4 ∧ pre.length + 4 ≤ o) : cellAt (ints (row8 pre a0 a1 a2 a3 a4 a5 a6 a7 post)) o = some (.int .i64 a4) := by
  rw [ints_get (by rw [row8_len]; omega), show o = pre.length + 4 by omega]; unfold row8; rw [gi_pre]; rfl
theorem rowGet5 (h : o ≤ pre.length + 5 ∧ pre.length + 5 ≤ o) : cellAt (ints (row8 pre a0 a1 a2 a3 a4 a5 a6 a7 post)) o = some (.int .i64 a5) := by
  rw [ints_get (by rw [row8_len]; omega), show o = pre.length + 5 by omega]; unfold row8; rw [gi_pre]; rfl
theorem rowGet7 (h : o ≤ pre.length + 7 ∧ pre.length + 7 ≤ o) : cellAt (ints (row8 pre a0 a1 a2 a3 a4 a5 a6 a7 post)) o = some (.int .i64 a7) := by
  rw [ints_get (by rw [row8_len]; omega), show o = pre.length + 7 by omega]; unfold row8; rw [gi_pre]; rfl
theorem rowPut2 (hg : g ≤ x) (h : o ≤ pre.length + 2 ∧ pre.length + 2 ≤ o) : storeB (some (.cells (ints (row8 pre a0 a1 a2 a3 a4 a5 a6 a7 post)) false)) g A x o [.int .i64 v] 1 = some (undef, A.set x (some (.cells (ints (row8 pre a0 a1 v a3 a4 a5 a6 a7 post)) false))) := by
  rw [storeB_int (by rw [row8_len]; omega) hg, show o = pre.length + 2 by omega]; unfold row8; rw [set_pre]; rfl
theorem rowPut3 (hg : g ≤ x) (h : o ≤ pre.length + 3 ∧ pre.length + 3 ≤ o) : storeB (some (.cells (ints (row8 pre a0 a1 a2 a3 a4 a5 a6 a7 post)) false)) g A x o [.int .i64 v] 1 = some (undef, A.set x (some (.cells (ints (row8 pre a0 a1 a2 v a4 a5 a6 a7 post)) false))) := by
  rw [storeB_int (by rw [row8_len]; omega) hg, show o = pre.length + 3 by omega]; unfold row8; rw [set_pre]; rfl
theorem rowPut4 (hg : g ≤ x) (h : o ≤ pre.length + 4 ∧ pre.length + 4 ≤ o) : storeB (some (.cells (ints (row8 pre a0 a1 a2 a3 a4 a5 a6 a7 post)) false)) g A x o [.int .i64 v] 1 = some (undef, A.set x (some (.cells (ints (row8 pre a0 a1 a2 a3 v a5 a6 a7 post)) false))) := by
  rw [storeB_int (by rw [row8_len]; omega) hg, show o = pre.length + 4 by omega]; unfold row8; rw [set_pre]; rfl
theorem rowPut5 (hg : g ≤ x) (h : o ≤ pre.length + 5 ∧ pre.length + 5 ≤ o) : storeB (some (.cells (ints (row8 pre a0 a1 a2 a3 a4 a5 a6 a7 post)) false)) g A x o [.int .i64 v] 1 = some (undef, A.set x (some (.cells (ints (row8 pre a0 a1 a2 a3 a4 v a6 a7 post)) false))) := by
  rw [storeB_int (by rw [row8_len]; omega) hg, show o = pre.length + 5 by omega]; unfold row8; rw [set_pre]; rfl
theorem rowPut6 (hg : g ≤ x) (h : o ≤ pre.length + 6 ∧ pre.length + 6 ≤ o) : storeB (some (.cells (ints (row8 pre a0 a1 a2 a3 a4 a5 a6 a7 post)) false)) g A x o [.int .i64 v] 1 = some (undef, A.set x (some (.cells (ints (row8 pre a0 a1 a2 a3 a4 a5 v a7 post)) false))) := by
  rw [storeB_int (by rw [row8_len]; omega) hg, show o = pre.length + 6 by omega]; unfold row8; rw [set_pre]; rfl
theorem rowPut7 (hg : g ≤ x) (h : o ≤ pre.length + 7 ∧ pre.length + 7 ≤ o) : storeB (some (.cells (ints (row8 pre a0 a1 a2 a3 a4 a5 a6 a7 post)) false)) g A x o [.int .i64 v] 1 = some (undef, A.set x (some (.cells (ints (row8 pre a0 a1 a2 a3 a4 a5 a6 v post)) false))) := by
  rw [storeB_int (by rw [row8_len]; omega) hg, show o = pre.length + 7 by omega]; unfold row8; rw [set_pre]; rfl
theorem rowPut01 (hg : g ≤ x) (h : o ≤ pre.length ∧ pre.length ≤ o) : storeB (some (.cells (ints (row8 pre a0 a1 a2 a3 a4 a5 a6 a7 post)) false)) g A x o [.int .i64 v, .int .i64 v'] 2 = some (undef, A.set x (some (.cells (ints (row8 pre v v' a2 a3 a4 a5 a6 a7 post)) false))) := by
  have e : o = pre.length := by omega
  subst e
  have := storeB_cells (A := A) (g := g) (k := x) (o := pre.length) (size := 2) (cs := ints (row8 pre a0 a1 a2 a3 a4 a5 a6 a7 post)) (vs := [.int .i64 v, .int .i64 v']) rfl hg (by rw [ints_length, row8_len]; omega) rfl
  rw [this]
  congr 4
  unfold setRange row8 ints
  simp [List.map_append, List.drop_append]
theorem set_set {b b' : Option ABlk} : (A.set x b).set x b' = A.set x b' := by
  unfold Hp.set; simp
end
variable {P : Par} {ar st : List Int}
theorem POk.rise' (hP : POk P) {c : Nat} (hc : c < P.l.length) (h : 1 ≤ P.under c) (hst : 0 ≤ gi st c ∧ gi st c ≤ 200000000) : 0 ≤ P.rise st c ∧ P.rise st c ≤ 196000 := by
  have hl := hP.lst hc
  have hu2 : P.under c ≤ 1220000 := by unfold Par.under; split <;> omega
  obtain ⟨_, f1, f2⟩ := fourth_bounds (b := !P.up) h hu2
  obtain ⟨b1, b2⟩ := dv_bounds (b := P.up) hst.1 (show 0 < fourthE (!P.up) (P.under c) by omega)
  refine ⟨b1, ?_⟩
  have := Int.mul_le_mul_of_nonneg_left (show (1024 : Int) ≤ fourthE (!P.up) (P.under c) by omega) b1
  unfold Par.rise
  omega
theorem surf_der (hP : POk P) (hO : SailOk P ar st) {b : Nat} {v : Int} (h : (PU P).Der (srfK P ar st P.l.length) b v) : SurfV v := by
  induction h with
  | init hb => exact srf_ok hP hO hb
  | @step a b v ha _ hb hs ih => exact .inr (spU_val (P := P) (a := a) (b := b) (v := v) hP (nb_lt (P := P) (a := a) (b := b) hP hb) ih hs)
theorem surf_above (hP : POk P) (hO : SailOk P ar st) {b : Nat} {v : Int} (h : (PU P).Der (srfK P ar st P.l.length) b v) (hv : v ≠ -Never) (hd : ¬ 1 ≤ P.dep b) : agE P.up (P.glo b) (P.ghi b) < v := by
  cases h with
  | init hb =>
    have hb' : b < P.l.length := hb
    rw [srfK_get hb'] at hv
    split at hv
    · rename_i hc; exact absurd ((hO.ar b hb').2 hc.2).2 hd
    · exact absurd rfl hv
  | @step a _ w ha _ hb hs => exact (spU_true (P := P) (a := a) (b := b) (v := w) hs).2.2
theorem land_above (hP : POk P) (hO : SailOk P ar st) {vs la : List Int} (h : (PU P).Fin (srfK P ar st P.l.length) (List.replicate P.l.length (-Never)) vs la) {b : Nat} (hb : b < P.l.length) (hn : gi la b ≠ -Never) :
    agE P.up (P.glo b) (P.ghi b) < gi la b ∧ -1200000 ≤ gi la b ∧ gi la b ≤ 200020000 := by
  rcases h.mid.land b hb with e | ⟨a, v, ha, hd, hnb, hs, e⟩
  · rw [gi_replicate hb] at e; exact absurd e hn
  · rw [e]
    exact ⟨(spU_true (P := P) (a := a) (b := b) (v := v) hs).2.2, spU_val (P := P) (a := a) (b := b) (v := v) hP hb (surf_der hP hO hd) hs⟩
end Go.Ab.Wave
namespace Go.Ab.Wave
open Go Go.Ab
def pLo : ACode := (.block 2
 (.seq
 (.ops [
oM 76 9,
oM 77 12,
oA 78 63 [.t 76, .t 77] false,
oM 75 78])
 (.cond (.t 75)
 (.seq
 (.ops [
oM 79 9,
oM 80 12,
oA 81 64 [.t 79, .t 80] false,
oM 15 81])
 (.seq
 (.ops [
oM 82 14,
oM 83 14,
oM 84 15,
oF 85 5 0,
oL 86 85,
oM 87 15,
oB 88 .add 86 87,
oP 89 (.nilCheck (.t 82)),
oF 90 89 2,
oF 91 90 0,
⟨none, none, [(.t 91, 1, .t 85, 1)], .store (.t 91) (.t 84) 1⟩,
oP 92 (.nilCheck (.t 83)),
oF 93 92 4,
oF 94 93 0,
oT 94 88 1])
 (.seq
 (.ops [
oM 95 14,
oM 96 15,
oM 97 15,
oB 98 .mul 96 97,
oC 99 .mul 98 981,
oM 100 9,
oM 101 12,
oA 102 66 [.t 100, .t 101] false,
oB 103 .quo 99 102,
oA 104 65 [.t 103] false,
oP 105 (.nilCheck (.t 95)),
oF 106 105 6,
oF 107 106 0,
oT 107 104 1])
 (.ops [
oM 108 14,
oP 109 (.nilCheck (.t 108)),
oF 110 109 4,
oF 111 110 1,
⟨none, none, [], .store (.t 111) (.k (.int .i64 (-1200000))) 1⟩]))))
 (.seq
 (.ops [
oM 113 9,
oP 114 (.nilCheck (.t 113)),
oF 115 114 18,
oL 116 115,
oM 117 12,
oI 118 116 117 1,
oL 119 118,
oC 120 .neq 119 (-1099511627776),
oM 112 120])
 (.cond (.t 112)
 (.seq
 (.ops [
oM 121 14,
oM 122 9,
oP 123 (.nilCheck (.t 122)),
oF 124 123 18,
oL 125 124,
oM 126 12,
oI 127 125 126 1,
oL 128 127,
oP 129 (.nilCheck (.t 121)),
oF 130 129 4,
oF 131 130 0,
oT 131 128 1])
 (.seq
 (.ops [
oM 132 14,
oM 133 14,
oP 134 (.nilCheck (.t 133)),
oF 135 134 4,
oF 136 135 0,
oL 137 136,
oF 138 13 1,
oL 139 138,
oB 140 .sub 137 139,
oP 141 (.nilCheck (.t 132)),
oF 142 141 2,
oF 143 142 0,
oT 143 140 1])
 (.ops [
oM 144 14,
oM 145 14,
oP 146 (.nilCheck (.t 145)),
oF 147 146 2,
oF 148 147 0,
oL 149 148,
oP 150 (.bin .mul (oK 981) (.t 149)),
oA 151 65 [.t 150] false,
oP 152 (.nilCheck (.t 144)),
oF 153 152 6,
oF 154 153 0,
oT 154 151 1])))
 .skip)))))
def pHi : ACode := (.seq
 (.ops [
oM 155 10,
oM 156 12,
oA 157 63 [.t 155, .t 156] false])
 (.cond (.t 157)
 (.seq
 (.ops [
oM 158 10,
oM 159 12,
oA 160 64 [.t 158, .t 159] false,
oM 16 160])
 (.seq
 (.ops [
oM 161 14,
oM 162 14,
oM 163 16,
oM 164 14,
oP 165 (.nilCheck (.t 164)),
oF 166 165 4,
oF 167 166 1,
oL 168 167,
oF 169 5 1,
oL 170 169,
oM 171 16,
oB 172 .add 170 171,
oP 173 (.max [.t 168, .t 172]),
oP 174 (.nilCheck (.t 161)),
oF 175 174 2,
oF 176 175 1,
⟨none, none, [(.t 176, 1, .t 169, 1)], .store (.t 176) (.t 163) 1⟩,
oP 177 (.nilCheck (.t 162)),
oF 178 177 4,
oF 179 178 1,
oT 179 173 1])
 (.ops [
oM 180 14,
oM 181 16,
oM 182 16,
oB 183 .mul 181 182,
oC 184 .mul 183 981,
oM 185 10,
oM 186 12,
oA 187 66 [.t 185, .t 186] false,
oP 188 (.max [.k (.int .i64 1), .t 187]),
oA 189 68 [.t 184, .t 188] false,
oA 190 67 [.t 189] false,
oP 191 (.nilCheck (.t 180)),
oF 192 191 6,
oF 193 192 1,
oT 193 190 1])))
 .skip))
def pLand : ACode := (.seq
 (.ops [
oM 194 10,
oP 195 (.nilCheck (.t 194)),
oF 196 195 19,
oL 197 196,
oM 198 12,
oI 199 197 198 1,
oL 200 199,
oM 17 200])
 (.seq
 (.ops [
oM 201 17,
oC 202 .neq 201 (-1099511627776)])
 (.cond (.t 202)
 (.seq
 (.ops [
oM 203 14,
oM 204 14,
oM 205 14,
oP 206 (.nilCheck (.t 205)),
oF 207 206 2,
oF 208 207 1,
oL 209 208,
oM 210 17,
oF 211 13 0,
oL 212 211,
oB 213 .sub 210 212,
oP 214 (.max [.t 209, .t 213]),
oM 215 14,
oP 216 (.nilCheck (.t 215)),
oF 217 216 4,
oF 218 217 1,
oL 219 218,
oM 220 17,
oP 221 (.max [.t 219, .t 220]),
oP 222 (.nilCheck (.t 203)),
oF 223 222 2,
oF 224 223 1,
oT 224 214 1,
oP 225 (.nilCheck (.t 204)),
oF 226 225 4,
oF 227 226 1,
oT 227 221 1])
 (.ops [
oM 228 14,
oM 229 14,
oP 230 (.nilCheck (.t 229)),
oF 231 230 6,
oF 232 231 1,
oL 233 232,
oM 234 17,
oF 235 13 0,
oL 236 235,
oB 237 .sub 234 236,
oP 238 (.bin .mul (oK 981) (.t 237)),
oA 239 67 [.t 238] true,
oP 240 (.max [.t 233, .t 239]),
oP 241 (.nilCheck (.t 228)),
oF 242 241 6,
oF 243 242 1,
oT 243 240 1]))
 .skip)))
def body45 : ACode := .seq (.ops [
oB 38 .lss 37 36]) (.seq (.cond (.t 38)
 .skip
 (.exit 0)) (.seq (.block 1 (.seq (.ops [
oM 39 37,
oI 40 35 37 2,
oD 41 40 2,
oP 13 (.alloc [.int .i64 0, .int .i64 0]),
oM 12 39,
oT 13 41 2]) (.seq (.ops [
oM 42 11,
oM 43 12,
oI 44 42 43 8,
oM 14 44]) (.seq (.ops [
oM 45 14,
oM 46 10,
oP 47 (.nilCheck (.t 46)),
oF 48 47 16,
oL 49 48,
oM 50 12,
oI 51 49 50 1,
oL 52 51,
oM 53 9,
oP 54 (.nilCheck (.t 53)),
oF 55 54 16,
oL 56 55,
oM 57 12,
oI 58 56 57 1,
oL 59 58,
oP 60 (.build [.int .i64 0, .int .i64 0] [(0, 1, .t 52), (1, 1, .t 59)]),
oP 61 (.nilCheck (.t 45)),
oF 62 61 0,
oT 62 60 2]) (.seq (.ops [
oM 63 14,
oM 64 14,
oF 65 13 0,
oL 66 65,
oF 67 13 1,
oL 68 67,
oP 69 (.nilCheck (.t 63)),
oF 70 69 4,
oF 71 70 0,
⟨none, none, [(.t 71, 1, .t 67, 1)], .store (.t 71) (.t 66) 1⟩,
oP 72 (.nilCheck (.t 64)),
oF 73 72 4,
oF 74 73 1,
oT 74 68 1]) (.seq pLo (.seq pHi pLand))))))) (.ops [
oC 244 .add 37 1,
oM 37 244])))
def Par.at (P : Par) (b : Bool) : Par := { P with up := b }
noncomputable def fAr (P : Par) (zs : List Int) (n : Nat) : List Int := arrL P (arrF P zs n) (strF P zs n)
noncomputable def fSt (P : Par) (zs : List Int) (n : Nat) : List Int := strF P zs n
noncomputable def fSu (P : Par) (zs : List Int) (n : Nat) : List Int := (srfF P (arrF P zs n) (strF P zs n)).1
noncomputable def fLa (P : Par) (zs : List Int) (n : Nat) : List Int := (srfF P (arrF P zs n) (strF P zs n)).2
structure Spr where
  P : Par
  zs : List Int
  n : Nat
  Xl : Nat
  al : Nat
  sl : Nat
  ul : Nat
  ll : Nat
  Xh : Nat
  ah : Nat
  sh : Nat
  uh : Nat
  lh : Nat
  x : Nat
  b5 : Nat
  g : Nat
structure Spr.Ok (E : Spr) : Prop where
  pl : POk (E.P.at false)
  ph : POk (E.P.at true)
  zl : StartOk (E.P.at false) E.zs E.n
  zh : StartOk (E.P.at true) E.zs E.n
  fl : SheetFin (E.P.at false) E.zs E.n
  fh : SheetFin (E.P.at true) E.zs E.n
  xl : E.Xl < E.x
  xh : E.Xh < E.x
  x5 : E.b5 < E.x
  hg : E.g ≤ E.x
structure Spr.St (E : Spr) (A0 A : Hp) (b13 : Nat) (c : Nat) (L : List Int) : Prop where
  lo : Sheet A (E.P.at false) E.Xl E.al E.sl E.ul E.ll (fAr (E.P.at false) E.zs E.n) (fSt (E.P.at false) E.zs E.n) (fSu (E.P.at false) E.zs E.n) (fLa (E.P.at false) E.zs E.n)
  hi : Sheet A (E.P.at true) E.Xh E.ah E.sh E.uh E.lh (fAr (E.P.at true) E.zs E.n) (fSt (E.P.at true) E.zs E.n) (fSu (E.P.at true) E.zs E.n) (fLa (E.P.at true) E.zs E.n)
  out : A.get E.x = some (.cells (ints L) false)
  gr : A.get b13 = some (.cells [.int .i64 (E.P.glo c), .int .i64 (E.P.ghi c)] false)
  sea : A.get E.b5 = some (.cells [.int .i64 E.P.slo, .int .i64 E.P.shi] false)
  keep : Keep (fun y => y = E.x) A0 A
  b13 : E.x < b13
theorem Spr.St.ext {E : Spr} {A0 A A' : Hp} {b13 c : Nat} {L : List Int} (h : E.St A0 A b13 c L) (k : Ext' A A') : E.St A0 A' b13 c L :=
  ⟨h.lo.ext k, h.hi.ext k, k.get h.out, k.get h.gr, k.get h.sea, h.keep.trans (k.keep _), h.b13⟩
theorem Spr.St.put {E : Spr} {A0 A : Hp} {b13 c : Nat} {L : List Int} (hE : E.Ok) (h : E.St A0 A b13 c L) (L' : List Int) : E.St A0 (A.set E.x (some (.cells (ints L') false))) b13 c L' := by
  have hx := Hp.lt_of_get h.out
  have h1 := hE.xl
  have h2 := hE.xh
  have h5 := hE.x5
  have hb := h.b13
  have o1 := h.lo.ord
  have o2 := h.hi.ord
  have e : ∀ y, y ≠ E.x → (A.set E.x (some (.cells (ints L') false))).get y = A.get y := fun y hy => get_set_ne hx hy
  exact ⟨h.lo.low fun y hy => e y (by omega), h.hi.low fun y hy => e y (by omega), get_set_same h.out, (e _ (by omega)).trans h.gr, (e _ (by omega)).trans h.sea, Keep.put' h.keep hx rfl, h.b13⟩
section
variable (E : Spr) (c : Nat)
noncomputable def Spr.riL : Int := (E.P.at false).rise (fSt (E.P.at false) E.zs E.n) c
noncomputable def Spr.suL : Int := gi (fSu (E.P.at false) E.zs E.n) c
noncomputable def Spr.riH : Int := (E.P.at true).rise (fSt (E.P.at true) E.zs E.n) c
noncomputable def Spr.laH : Int := gi (fLa (E.P.at true) E.zs E.n) c
noncomputable def Spr.r2 : Int := if 1 ≤ (E.P.at false).dep c then E.riL c else if E.suL c ≠ -Never then E.suL c - E.P.ghi c else 0
noncomputable def Spr.r4 : Int := if 1 ≤ (E.P.at false).dep c then E.P.slo + E.riL c else if E.suL c ≠ -Never then E.suL c else E.P.glo c
noncomputable def Spr.r5 : Int := if 1 ≤ (E.P.at false).dep c then -1200000 else E.P.ghi c
noncomputable def Spr.r6 : Int := if 1 ≤ (E.P.at false).dep c then rootI ((E.riL c * E.riL c * 981).tdiv ((E.P.at false).lst c)) else if E.suL c ≠ -Never then rootI (981 * (E.suL c - E.P.ghi c)) else 0
noncomputable def Spr.h3 : Int := if 1 ≤ (E.P.at true).dep c then E.riH c else 0
noncomputable def Spr.h5 : Int := if 1 ≤ (E.P.at true).dep c then max (E.r5 c) (E.P.shi + E.riH c) else E.r5 c
noncomputable def Spr.h7 : Int := if 1 ≤ (E.P.at true).dep c then rootUpI (upI (E.riH c * E.riH c * 981) (max 1 ((E.P.at true).lst c))) else 0
noncomputable def Spr.l3 : Int := if E.laH c ≠ -Never then max (E.h3 c) (E.laH c - E.P.glo c) else E.h3 c
noncomputable def Spr.l5 : Int := if E.laH c ≠ -Never then max (E.h5 c) (E.laH c) else E.h5 c
noncomputable def Spr.l7 : Int := if E.laH c ≠ -Never then max (E.h7 c) (rootUpI (981 * (E.laH c - E.P.glo c))) else E.h7 c
end
section
variable {E : Spr} {A0 A : Hp} {b13 c : Nat} {T : List Value} {D : List Nat} {rd : Option Nat} {Q : Ex → St → Prop} {pre post : List Int} {a0 a1 a2 a3 a4 a5 a6 a7 : Int}
theorem pLo_run (hE : E.Ok) (hc : c < E.P.l.length) (hpre : pre.length = c * 8) (h : E.St A0 A b13 c (row8 pre a0 a1 0 a3 (E.P.glo c) (E.P.ghi c) 0 a7 post))
    (t9 : tget T 9 = ptrV E.Xl) (t12 : tget T 12 = .int .i64 c) (t13 : tget T 13 = ptrV b13) (t14 : tget T 14 = .pointer (some ⟨E.x, c * 8, none⟩)) (t5 : tget T 5 = ptrV E.b5)
    (hQ : ∀ T' A', E.St A0 A' b13 c (row8 pre a0 a1 (E.r2 c) a3 (E.r4 c) (E.r5 c) (E.r6 c) a7 post) → (∀ i, i < 15 ∨ (35 ≤ i ∧ i < 38) → tget T' i = tget T i) → Q .normal ⟨T', D, A'⟩) :
    W AP KL E.g rd pLo ⟨T, D, A⟩ Q := by
  have hx := Hp.lt_of_get h.out
  have hxg := hE.hg
  have hcl : c < (E.P.at false).l.length := hc
  simp (disch := as_aux_lemma => first | omega | simp only [hDs] <;> omega | simp [isCell]) [hRs, takeMarks, resA, resAll, resOne, Value.cells, pLo, t9, t12, ptrV]
  refine w63 h.lo hE.pl hcl fun A1 k1 => ?_
  have h1 := h.ext k1
  by_cases hd : 1 ≤ (E.P.at false).dep c
  · have hO := sailOk hE.pl hE.zl hE.fl.arr hE.fl.str
    have hun := hE.pl.under hcl hd
    have hri := hE.pl.rise' hcl hun (hO.st c hcl)
    simp (disch := as_aux_lemma => first | omega | simp only [hDs] <;> omega | simp [isCell]) [hRs, takeMarks, resA, resAll, resOne, Value.cells, hd, t9, t12, ptrV]
    refine w64 h1.lo hE.pl hcl hun (hO.st c hcl) fun A2 k2 => ?_
    have h2 := h1.ext k2
    have hX2 := h2.sea
    have ho2 := h2.out
    have hs2 := hE.pl.sea
    have sm : ∀ b, (A2.set E.x b).get E.x = b := fun b => get_set_same ho2
    obtain ⟨r, hr⟩ : ∃ r, r = E.riL c := ⟨_, rfl⟩
    have hrr : (E.P.at false).rise (fSt (E.P.at false) E.zs E.n) c = r := hr.symm
    have hri : 0 ≤ r ∧ r ≤ 196000 := by rw [hr]; exact hri
    have m1 : 0 ≤ r * r ∧ r * r ≤ 196000 * 196000 := ⟨Int.mul_nonneg hri.1 hri.1, Int.mul_le_mul hri.2 hri.2 hri.1 (by omega)⟩
    have hsl : -20000 ≤ E.P.slo ∧ E.P.slo ≤ 20000 := by have : (E.P.at false).slo = E.P.slo := rfl; have : (E.P.at false).shi = E.P.shi := rfl; omega
    have hun' : 1 ≤ (E.P.at false).lst c := hun
    have hl2 := hE.pl.lst hcl
    have q : 0 ≤ (r * r * 981).tdiv ((E.P.at false).lst c) ∧ (r * r * 981).tdiv ((E.P.at false).lst c) ≤ r * r * 981 := by
      rw [Int.tdiv_eq_ediv_of_nonneg (by omega)]
      exact ⟨Int.ediv_nonneg (by omega) (by omega), Int.ediv_le_self _ (by omega)⟩
    simp (disch := as_aux_lemma => first | omega | simp only [hDs] <;> omega | simp [isCell]) [hRs, takeMarks, resA, resAll, resOne, Value.cells, t14, t5, ptrV, hX2, ho2, sm, set_set, rowPut2, rowPut4, apartA, show ¬ E.x = E.b5 by have := hE.x5; omega, t12, t9, hrr, wrId (n := E.P.slo + r) (by omega) (by omega), wrId (n := r * r) (by omega) (by omega), wrId (n := r * r * 981) (by omega) (by omega)]
    have h3 := h2.put hE (row8 pre a0 a1 r a3 (E.P.slo + r) (E.P.ghi c) 0 a7 post)
    refine w66 h3.lo hE.pl hcl fun A3 k3 => ?_
    have h4 := h3.ext k3
    have ho4 := h4.out
    have sm4 : ∀ b, (A3.set E.x b).get E.x = b := fun b => get_set_same ho4
    have hx4 := Hp.lt_of_get ho4
    simp (disch := as_aux_lemma => first | omega | simp only [hDs] <;> omega | simp [isCell]) [hRs, takeMarks, resA, resAll, resOne, Value.cells, binA_quo (show (E.P.at false).lst c ≠ 0 by omega), wrId (n := (r * r * 981).tdiv ((E.P.at false).lst c)) (by omega) (by omega)]
    refine w65 q.1 (by omega) ?_
    simp (disch := as_aux_lemma => first | omega | simp only [hDs] <;> omega | simp [isCell]) [hRs, takeMarks, resA, resAll, resOne, Value.cells, t14, ho4, sm4, set_set, rowPut6, rowPut5]
    have h5 := h4.put hE (row8 pre a0 a1 r a3 (E.P.slo + r) (-1200000) (rootI ((r * r * 981).tdiv ((E.P.at false).lst c))) a7 post)
    refine hQ _ _ ?_ fun i hi => ?_
    · unfold Spr.r2 Spr.r4 Spr.r5 Spr.r6
      rw [if_pos hd, if_pos hd, if_pos hd, if_pos hd, ← hr]
      exact h5
    · simp only [tget_tset]
      repeat (rw [if_neg (by omega)])
  · have hu1 := h1.lo.hu
    have hX1 := h1.lo.hx
    have hg1 := h1.gr
    have ho1 := h1.out
    have hu : c < (fSu (E.P.at false) E.zs E.n).length := by rw [h1.lo.nu]; exact hcl
    have hO := sailOk hE.pl hE.zl hE.fl.arr hE.fl.str
    have hder := hE.fl.srf.mid.der c hcl
    have hsv : SurfV (gi (fSu (E.P.at false) E.zs E.n) c) := surf_der hE.pl hO hder
    have hgr := hE.pl.ground hcl
    have eglo : (E.P.at false).ghi c = E.P.ghi c := rfl
    by_cases hs : gi (fSu (E.P.at false) E.zs E.n) c = -1099511627776
    · simp (disch := as_aux_lemma => first | omega | simp only [hDs] <;> omega | simp [isCell]) [hRs, takeMarks, resA, resAll, resOne, Value.cells, hd, t9, t12, ptrV, hX1, shCells, rowS1, idxSA_ok, show (c : Int) < (E.P.at false).l.length by omega, hu1, ints_get hu, hs]
      refine hQ _ _ ?_ fun i hi => ?_
      · unfold Spr.r2 Spr.r4 Spr.r5 Spr.r6
        rw [if_neg hd, if_neg hd, if_neg hd, if_neg hd, if_neg (fun hn => hn hs), if_neg (fun hn => hn hs), if_neg (fun hn => hn hs)]
        exact h1
      · simp only [tget_tset]
        repeat (rw [if_neg (by omega)])
    · have hab : agE (E.P.at false).up ((E.P.at false).glo c) ((E.P.at false).ghi c) < gi (fSu (E.P.at false) E.zs E.n) c := surf_above hE.pl hO hder hs hd
      have hab : E.P.ghi c < gi (fSu (E.P.at false) E.zs E.n) c := hab
      rcases hsv with hsv | hsv
      · exact absurd hsv hs
      obtain ⟨u, hu0⟩ : ∃ u, u = E.suL c := ⟨_, rfl⟩
      have huu : gi (fSu (E.P.at false) E.zs E.n) c = u := hu0.symm
      rw [huu] at hab hsv hs
      have sm : ∀ b, (A1.set E.x b).get E.x = b := fun b => get_set_same ho1
      have g13 : ∀ b, (A1.set E.x b).get b13 = A1.get b13 := fun b => get_set_ne (Hp.lt_of_get ho1) (by have := h1.b13; omega)
      simp (disch := as_aux_lemma => first | omega | simp only [hDs] <;> omega | simp [isCell]) [hRs, takeMarks, resA, resAll, resOne, Value.cells, hd, t9, t12, ptrV, hX1, shCells, rowS1, idxSA_ok, show (c : Int) < (E.P.at false).l.length by omega, hu1, ints_get hu, huu, hs, t14, ho1, sm, set_set, rowPut4, rowGet4, t13, g13, hg1, wrId (n := u - E.P.ghi c) (by omega) (by omega), rowPut2, rowGet2, wrId (n := 981 * (u - E.P.ghi c)) (by omega) (by omega)]
      refine w65 (by omega) (by omega) ?_
      simp (disch := as_aux_lemma => first | omega | simp only [hDs] <;> omega | simp [isCell]) [hRs, takeMarks, resA, resAll, resOne, Value.cells, t14, sm, set_set, rowPut6]
      refine hQ _ _ ?_ fun i hi => ?_
      · unfold Spr.r2 Spr.r4 Spr.r5 Spr.r6
        have hs' : u ≠ -Never := hs
        rw [if_neg hd, if_neg hd, if_neg hd, if_neg hd, ← hu0, if_pos hs', if_pos hs', if_pos hs']
        exact h1.put hE _
      · simp only [tget_tset]
        repeat (rw [if_neg (by omega)])
theorem pHi_run (hE : E.Ok) (hc : c < E.P.l.length) (hpre : pre.length = c * 8) (h : E.St A0 A b13 c (row8 pre a0 a1 a2 0 a4 (E.r5 c) a6 0 post))
    (t10 : tget T 10 = ptrV E.Xh) (t12 : tget T 12 = .int .i64 c) (t14 : tget T 14 = .pointer (some ⟨E.x, c * 8, none⟩)) (t5 : tget T 5 = ptrV E.b5)
    (hQ : ∀ T' A', E.St A0 A' b13 c (row8 pre a0 a1 a2 (E.h3 c) a4 (E.h5 c) a6 (E.h7 c) post) → (∀ i, i < 15 ∨ (35 ≤ i ∧ i < 38) → tget T' i = tget T i) → Q .normal ⟨T', D, A'⟩) :
    W AP KL E.g rd pHi ⟨T, D, A⟩ Q := by
  have hx := Hp.lt_of_get h.out
  have hxg := hE.hg
  have hcl : c < (E.P.at true).l.length := hc
  simp (disch := as_aux_lemma => first | omega | simp only [hDs] <;> omega | simp [isCell]) [hRs, takeMarks, resA, resAll, resOne, Value.cells, pHi, t10, t12, ptrV]
  refine w63 h.hi hE.ph hcl fun A1 k1 => ?_
  have h1 := h.ext k1
  by_cases hd : 1 ≤ (E.P.at true).dep c
  · have hO := sailOk hE.ph hE.zh hE.fh.arr hE.fh.str
    have hun := hE.ph.under hcl hd
    have hri := hE.ph.rise' hcl hun (hO.st c hcl)
    simp (disch := as_aux_lemma => first | omega | simp only [hDs] <;> omega | simp [isCell]) [hRs, takeMarks, resA, resAll, resOne, Value.cells, hd, t10, t12, ptrV]
    refine w64 h1.hi hE.ph hcl hun (hO.st c hcl) fun A2 k2 => ?_
    have h2 := h1.ext k2
    have hX2 := h2.sea
    have ho2 := h2.out
    have hs2 := hE.ph.sea
    have sm : ∀ b, (A2.set E.x b).get E.x = b := fun b => get_set_same ho2
    obtain ⟨r, hr⟩ : ∃ r, r = E.riH c := ⟨_, rfl⟩
    have hrr : (E.P.at true).rise (fSt (E.P.at true) E.zs E.n) c = r := hr.symm
    have hri : 0 ≤ r ∧ r ≤ 196000 := by rw [hr]; exact hri
    have m1 : 0 ≤ r * r ∧ r * r ≤ 196000 * 196000 := ⟨Int.mul_nonneg hri.1 hri.1, Int.mul_le_mul hri.2 hri.2 hri.1 (by omega)⟩
    have hsl : -20000 ≤ E.P.shi ∧ E.P.shi ≤ 20000 := by have : (E.P.at true).slo = E.P.slo := rfl; have : (E.P.at true).shi = E.P.shi := rfl; omega
    have hl2 := hE.ph.lst hcl
    obtain ⟨m, hm⟩ : ∃ m, m = max 1 ((E.P.at true).lst c) := ⟨_, rfl⟩
    have hmb : 1 ≤ m ∧ m ≤ 1220000 := by omega
    have q : 0 ≤ upI (r * r * 981) m ∧ upI (r * r * 981) m ≤ r * r * 981 := by
      unfold upI
      rw [Int.tdiv_eq_ediv_of_nonneg (by omega)]
      refine ⟨Int.ediv_nonneg (by omega) (by omega), ?_⟩
      have hk : r * r * 981 + m - 1 ≤ r * r * 981 * m + (m - 1) := by
        have := Int.mul_le_mul_of_nonneg_left (show (1 : Int) ≤ m by omega) (show 0 ≤ r * r * 981 by omega)
        omega
      have h2 := Int.ediv_le_ediv (show 0 < m by omega) hk
      rw [Int.add_comm (r * r * 981 * m), Int.add_mul_ediv_right _ _ (by omega), Int.ediv_eq_zero_of_lt (show 0 ≤ m - 1 by omega) (show m - 1 < m by omega)] at h2
      omega
    simp (disch := as_aux_lemma => first | omega | simp only [hDs] <;> omega | simp [isCell]) [hRs, takeMarks, resA, resAll, resOne, Value.cells, t14, t5, ptrV, hX2, ho2, sm, set_set, rowPut3, rowPut5, rowGet5, apartA, show ¬ E.x = E.b5 by have := hE.x5; omega, t12, t10, hrr, wrId (n := E.P.shi + r) (by omega) (by omega), wrId (n := r * r) (by omega) (by omega), wrId (n := r * r * 981) (by omega) (by omega)]
    have h3 := h2.put hE (row8 pre a0 a1 a2 r a4 (max (E.r5 c) (E.P.shi + r)) a6 0 post)
    refine w66 h3.hi hE.ph hcl fun A3 k3 => ?_
    have h4 := h3.ext k3
    have ho4 := h4.out
    have sm4 : ∀ b, (A3.set E.x b).get E.x = b := fun b => get_set_same ho4
    have hx4 := Hp.lt_of_get ho4
    simp (disch := as_aux_lemma => first | omega | simp only [hDs] <;> omega | simp [isCell]) [hRs, takeMarks, resA, resAll, resOne, Value.cells]
    rw [← hm]
    refine w68 (by omega) (by omega) (by omega) (by omega) ?_
    simp (disch := as_aux_lemma => first | omega | simp only [hDs] <;> omega | simp [isCell]) [hRs, takeMarks, resA, resAll, resOne, Value.cells]
    refine w67 q.1 (by omega) ?_
    simp (disch := as_aux_lemma => first | omega | simp only [hDs] <;> omega | simp [isCell]) [hRs, takeMarks, resA, resAll, resOne, Value.cells, t14, ho4, sm4, set_set, rowPut7]
    refine hQ _ _ ?_ fun i hi => ?_
    · unfold Spr.h3 Spr.h5 Spr.h7
      rw [if_pos hd, if_pos hd, if_pos hd, ← hr, ← hm]
      exact h4.put hE _
    · simp only [tget_tset]
      repeat (rw [if_neg (by omega)])
  · simp (disch := as_aux_lemma => first | omega | simp only [hDs] <;> omega | simp [isCell]) [hRs, takeMarks, resA, resAll, resOne, Value.cells, hd]
    refine hQ _ _ ?_ fun i hi => ?_
    · unfold Spr.h3 Spr.h5 Spr.h7
      rw [if_neg hd, if_neg hd, if_neg hd]
      exact h1
    · simp only [tget_tset]
      repeat (rw [if_neg (by omega)])
theorem pLand_run (hE : E.Ok) (hc : c < E.P.l.length) (hpre : pre.length = c * 8) (h : E.St A0 A b13 c (row8 pre a0 a1 a2 (E.h3 c) a4 (E.h5 c) a6 (E.h7 c) post))
    (t10 : tget T 10 = ptrV E.Xh) (t12 : tget T 12 = .int .i64 c) (t13 : tget T 13 = ptrV b13) (t14 : tget T 14 = .pointer (some ⟨E.x, c * 8, none⟩))
    (hQ : ∀ T' A', E.St A0 A' b13 c (row8 pre a0 a1 a2 (E.l3 c) a4 (E.l5 c) a6 (E.l7 c) post) → (∀ i, i < 15 ∨ (35 ≤ i ∧ i < 38) → tget T' i = tget T i) → Q .normal ⟨T', D, A'⟩) :
    W AP KL E.g rd pLand ⟨T, D, A⟩ Q := by
  have hx := Hp.lt_of_get h.out
  have hxg := hE.hg
  have hcl : c < (E.P.at true).l.length := hc
  have hl := h.hi.hl
  have hX := h.hi.hx
  have hg := h.gr
  have ho := h.out
  have hn : c < (fLa (E.P.at true) E.zs E.n).length := by rw [h.hi.nl]; exact hcl
  have hO := sailOk hE.ph hE.zh hE.fh.arr hE.fh.str
  have hgr := hE.ph.ground hcl
  have eglo : (E.P.at true).glo c = E.P.glo c := rfl
  by_cases hs : gi (fLa (E.P.at true) E.zs E.n) c = -1099511627776
  · simp (disch := as_aux_lemma => first | omega | simp only [hDs] <;> omega | simp [isCell]) [hRs, takeMarks, resA, resAll, resOne, Value.cells, pLand, t10, t12, ptrV, hX, shCells, rowS1, idxSA_ok, show (c : Int) < (E.P.at true).l.length by omega, hl, ints_get hn, hs]
    refine hQ _ _ ?_ fun i hi => ?_
    · unfold Spr.l3 Spr.l5 Spr.l7
      rw [if_neg (fun hn => hn hs), if_neg (fun hn => hn hs), if_neg (fun hn => hn hs)]
      exact h
    · simp only [tget_tset]
      repeat (rw [if_neg (by omega)])
  · obtain ⟨hab, hs1, hs2⟩ := land_above hE.ph hO hE.fh.srf hcl hs
    have hab : E.P.glo c < gi (fLa (E.P.at true) E.zs E.n) c := hab
    have hs1 : -1200000 ≤ gi (fLa (E.P.at true) E.zs E.n) c := hs1
    have hs2 : gi (fLa (E.P.at true) E.zs E.n) c ≤ 200020000 := hs2
    obtain ⟨u, hu0⟩ : ∃ u, u = E.laH c := ⟨_, rfl⟩
    have huu : gi (fLa (E.P.at true) E.zs E.n) c = u := hu0.symm
    rw [huu] at hab hs1 hs2 hs
    have sm : ∀ b, (A.set E.x b).get E.x = b := fun b => get_set_same ho
    have g13 : ∀ b, (A.set E.x b).get b13 = A.get b13 := fun b => get_set_ne (Hp.lt_of_get ho) (by have := h.b13; omega)
    simp (disch := as_aux_lemma => first | omega | simp only [hDs] <;> omega | simp [isCell]) [hRs, takeMarks, resA, resAll, resOne, Value.cells, pLand, t10, t12, ptrV, hX, shCells, rowS1, idxSA_ok, show (c : Int) < (E.P.at true).l.length by omega, hl, ints_get hn, huu, hs, t14, ho, sm, set_set, t13, g13, hg, wrId (n := u - E.P.glo c) (by omega) (by omega), rowPut3, rowGet3, rowPut5, rowGet5, rowGet7, wrId (n := 981 * (u - E.P.glo c)) (by omega) (by omega)]
    refine w67 (by omega) (by omega) ?_
    simp (disch := as_aux_lemma => first | omega | simp only [hDs] <;> omega | simp [isCell]) [hRs, takeMarks, resA, resAll, resOne, Value.cells, t14, sm, set_set, rowPut7]
    refine hQ _ _ ?_ fun i hi => ?_
    · have hs' : u ≠ -Never := hs
      unfold Spr.l3 Spr.l5 Spr.l7
      rw [← hu0, if_pos hs', if_pos hs', if_pos hs']
      exact h.put hE _
    · simp only [tget_tset]
      repeat (rw [if_neg (by omega)])
end
end Go.Ab.Wave
namespace Go.Ab.Wave
open Go Go.Ab
structure Spr.St0 (E : Spr) (A0 A : Hp) (L : List Int) : Prop where
  lo : Sheet A (E.P.at false) E.Xl E.al E.sl E.ul E.ll (fAr (E.P.at false) E.zs E.n) (fSt (E.P.at false) E.zs E.n) (fSu (E.P.at false) E.zs E.n) (fLa (E.P.at false) E.zs E.n)
  hi : Sheet A (E.P.at true) E.Xh E.ah E.sh E.uh E.lh (fAr (E.P.at true) E.zs E.n) (fSt (E.P.at true) E.zs E.n) (fSu (E.P.at true) E.zs E.n) (fLa (E.P.at true) E.zs E.n)
  out : A.get E.x = some (.cells (ints L) false)
  sea : A.get E.b5 = some (.cells [.int .i64 E.P.slo, .int .i64 E.P.shi] false)
  keep : Keep (fun y => y = E.x) A0 A
theorem Spr.St.to0 {E : Spr} {A0 A : Hp} {b13 c : Nat} {L : List Int} (h : E.St A0 A b13 c L) : E.St0 A0 A L := ⟨h.lo, h.hi, h.out, h.sea, h.keep⟩
noncomputable def Spr.row (E : Spr) (c : Nat) : List Int :=
  [gi (fAr (E.P.at true) E.zs E.n) c, gi (fAr (E.P.at false) E.zs E.n) c, E.r2 c, E.l3 c, E.r4 c, E.l5 c, E.r6 c, E.l7 c]
noncomputable def Spr.rows (E : Spr) (i : Nat) : List Int := (List.range i).flatMap E.row
theorem Spr.rows_succ {E : Spr} {i : Nat} : E.rows (i + 1) = E.rows i ++ E.row i := by
  unfold Spr.rows
  rw [List.range_succ, List.flatMap_append, List.flatMap_singleton]
theorem Spr.rows_len {E : Spr} {i : Nat} : (E.rows i).length = i * 8 := by
  induction i with
  | zero => rfl
  | succ i ih => rw [Spr.rows_succ, List.length_append, ih]; simp [Spr.row]; omega
noncomputable def Spr.full (E : Spr) (i : Nat) : List Int := E.rows i ++ List.replicate ((E.P.l.length - i) * 8) 0
theorem Spr.full_row {E : Spr} {i : Nat} (h : i < E.P.l.length) : E.full i = row8 (E.rows i) 0 0 0 0 0 0 0 0 (List.replicate ((E.P.l.length - (i + 1)) * 8) 0) := by
  unfold Spr.full row8
  rw [show (E.P.l.length - i) * 8 = (E.P.l.length - (i + 1)) * 8 + 8 by omega]
  rfl
theorem Spr.full_next {E : Spr} {i : Nat} : row8 (E.rows i) (gi (fAr (E.P.at true) E.zs E.n) i) (gi (fAr (E.P.at false) E.zs E.n) i) (E.r2 i) (E.l3 i) (E.r4 i) (E.l5 i) (E.r6 i) (E.l7 i) (List.replicate ((E.P.l.length - (i + 1)) * 8) 0) = E.full (i + 1) := by
  unfold Spr.full
  rw [Spr.rows_succ, List.append_assoc]
  rfl
theorem ground_two {P : Par} {c : Nat} {A : Hp} (hg : groundOf A P.sl = some P.l) (hc : c < P.l.length) : ∃ x cap ro, P.sl = .slice (some ⟨x, 0, some 2⟩) P.l.length cap ∧ A.get x = some (.cells (ints (flat2 P.l)) ro) := by
  obtain ⟨x, xc, xr, hsl, hx⟩ := (rd_ground hg).at hc
  exact ⟨x, xc, xr, hsl, hx⟩
section
variable {E : Spr} {D : List Nat} {rd : Option Nat} {Q : Ex → St → Prop}
theorem loop45 {A0 : Hp} (hE : E.Ok) (hQ : ∀ T' A', E.St0 A0 A' (E.full E.P.l.length) → tget T' 11 = .slice (some ⟨E.x, 0, some 8⟩) E.P.l.length E.P.l.length → Q (.exit 0) ⟨T', D, A'⟩) :
    ∀ (k i : Nat) (T : List Value) (A : Hp), i + k = E.P.l.length → E.St0 A0 A (E.full i) → tget T 9 = ptrV E.Xl → tget T 10 = ptrV E.Xh → tget T 5 = ptrV E.b5 → tget T 11 = .slice (some ⟨E.x, 0, some 8⟩) E.P.l.length E.P.l.length →
      tget T 35 = E.P.sl → tget T 36 = .int .i64 E.P.l.length → tget T 37 = .int .i64 i → W AP KL E.g rd (.loop body45) ⟨T, D, A⟩ Q := by
  have hsm : E.P.l.length ≤ 40 := hE.pl.small
  intro k
  induction k with
  | zero =>
    intro i T A hi h t9 t10 t5 t11 t35 t36 t37
    have : i = E.P.l.length := by omega
    rw [W_loop]
    simp (disch := as_aux_lemma => first | omega | simp only [hDs] <;> omega | simp [isCell]) [hRs, takeMarks, resA, resAll, resOne, Value.cells, body45, t36, t37, show ¬ (i : Int) < E.P.l.length by omega]
    subst this
    exact hQ _ A h (by simp [t11])
  | succ k ih =>
    intro i T A hi h t9 t10 t5 t11 t35 t36 t37
    have hil : i < E.P.l.length := by omega
    obtain ⟨y, cap, ro, hsl, hy⟩ := ground_two (P := E.P.at false) h.lo.hg hil
    have hsl : E.P.sl = .slice (some ⟨y, 0, some 2⟩) E.P.l.length cap := hsl
    have hgl : (flat2 E.P.l).length = E.P.l.length * 2 := flat2_length _
    have hy : A.get y = some (.cells (ints (flat2 E.P.l)) ro) := hy
    have hyn := Hp.lt_of_get hy
    have hxn := Hp.lt_of_get h.out
    have hxg := hE.hg
    have ho := h.out
    rw [Spr.full_row hil] at ho
    obtain ⟨B, hB⟩ : ∃ B, B = A.push (.cells [.int .i64 (E.P.glo i), .int .i64 (E.P.ghi i)] false) := ⟨_, rfl⟩
    have kB : Ext' A B := by rw [hB]; exact Ext'.push _ _
    have gB : B.get A.n = some (.cells [.int .i64 (E.P.glo i), .int .i64 (E.P.ghi i)] false) := by rw [hB]; exact get_push_new
    have hB' := hB
    unfold Par.glo Par.ghi at hB'
    have ho1 := kB.get ho
    have h1 : E.St A0 B A.n i (row8 (E.rows i) 0 0 0 0 0 0 0 0 (List.replicate ((E.P.l.length - (i + 1)) * 8) 0)) :=
      ⟨h.lo.ext kB, h.hi.ext kB, ho1, gB, kB.get h.sea, h.keep.trans (kB.keep _), by omega⟩
    have hXl := h1.lo.hx
    have hXh := h1.hi.hx
    have hal := h1.lo.ha
    have hah := h1.hi.ha
    have el : i < (fAr (E.P.at false) E.zs E.n).length := by rw [h1.lo.na]; exact hil
    have eh : i < (fAr (E.P.at true) E.zs E.n).length := by rw [h1.hi.na]; exact hil
    have hxB := Hp.lt_of_get ho1
    have hpl : (E.rows i).length = i * 8 := Spr.rows_len
    have nl : (E.P.at false).l.length = E.P.l.length := rfl
    have nh : (E.P.at true).l.length = E.P.l.length := rfl
    have sm : ∀ b, (B.set E.x b).get E.x = b := fun b => get_set_same ho1
    have g13 : ∀ b, (B.set E.x b).get A.n = B.get A.n := fun b => get_set_ne hxB (by omega)
    rw [W_loop]
    simp (disch := as_aux_lemma => first | omega | simp only [hDs] <;> omega | simp [isCell]) [hRs, takeMarks, resA, resAll, resOne, Value.cells, body45, t36, t37, t35, hsl, show (i : Int) < E.P.l.length by omega, idxSA_ok, hy, ints_two, storeB_cells, setRange_all]
    rw [← hB']
    simp (disch := as_aux_lemma => first | omega | simp only [hDs] <;> omega | simp [isCell]) [hRs, takeMarks, resA, resAll, resOne, Value.cells, t11, t10, t9, ptrV, idxSA_ok, show (i : Int) < E.P.l.length by omega, hXh, hXl, shCells, rowS1, nl, nh, hal, hah, ints_get el, ints_get eh, fillA, setRange, ho1, sm, set_set, rowPut01, gB, g13, rowPut4, rowPut5, apartA, show ¬ E.x = A.n by omega]
    have h2 := h1.put hE (row8 (E.rows i) (gi (fAr (E.P.at true) E.zs E.n) i) (gi (fAr (E.P.at false) E.zs E.n) i) 0 0 (E.P.glo i) (E.P.ghi i) 0 0 (List.replicate ((E.P.l.length - (i + 1)) * 8) 0))
    refine pLo_run hE hil hpl h2 ?_ ?_ ?_ ?_ ?_ fun T3 A3 h3 q3 => ?_
    · simp [t9]
    · simp
    · simp [ptrV]
    · simp
    · simp [t5]
    have p9 := q3 9 (by omega)
    have p10 := q3 10 (by omega)
    have p5 := q3 5 (by omega)
    have p12 := q3 12 (by omega)
    have p13 := q3 13 (by omega)
    have p14 := q3 14 (by omega)
    simp at p9 p10 p5 p12 p13 p14
    simp (disch := as_aux_lemma => first | omega | simp only [hDs] <;> omega | simp [isCell]) [hRs, takeMarks, resA, resAll, resOne, Value.cells]
    refine pHi_run hE hil hpl h3 ?_ ?_ ?_ ?_ fun T4 A4 h4 q4 => ?_
    · rw [p10, t10]
    · rw [p12]
    · rw [p14]
    · rw [p5, t5]
    simp (disch := as_aux_lemma => first | omega | simp only [hDs] <;> omega | simp [isCell]) [hRs, takeMarks, resA, resAll, resOne, Value.cells]
    refine pLand_run hE hil hpl h4 ?_ ?_ ?_ ?_ fun T5 A5 h5 q5 => ?_
    · rw [q4 10 (by omega), p10, t10]
    · rw [q4 12 (by omega), p12]
    · rw [q4 13 (by omega), p13]; rfl
    · rw [q4 14 (by omega), p14]
    have h6 := h5.to0
    rw [Spr.full_next] at h6
    have e : ∀ j, (j < 15 ∨ (35 ≤ j ∧ j < 38)) → tget T5 j = tget T3 j := fun j hj => (q5 j hj).trans (q4 j hj)
    have p35 := q3 35 (by omega)
    have p36 := q3 36 (by omega)
    have p37 := q3 37 (by omega)
    have p11 := q3 11 (by omega)
    simp at p35 p36 p37 p11
    have e37 := (e 37 (by omega)).trans p37
    simp (disch := as_aux_lemma => first | omega | simp only [hDs] <;> omega | simp [isCell]) [hRs, takeMarks, resA, resAll, resOne, Value.cells, e37, t37]
    refine ih (i + 1) _ A5 (by omega) h6 ?_ ?_ ?_ ?_ ?_ ?_ ?_
    · simp [e 9 (by omega), p9, t9]
    · simp [e 10 (by omega), p10, t10]
    · simp [e 5 (by omega), p5, t5]
    · simp [e 11 (by omega), p11, t11]
    · simp [e 35 (by omega), p35, t35, hsl]
    · simp [e 36 (by omega), p36, t36]
    · simp [wrId (n := (i : Int) + 1) (by omega) (by omega)]
end
end Go.Ab.Wave
namespace Go.Ab.Wave
open Go Go.Ab
noncomputable def bounds (P : Par) (zs : List Int) (n : Nat) : List Int := Spr.rows ⟨P, zs, n, 0, 0, 0, 0, 0, 0, 0, 0, 0, 0, 0, 0, 0⟩ P.l.length
theorem bounds_len {P : Par} {zs : List Int} {n : Nat} : (bounds P zs n).length = P.l.length * 8 := Spr.rows_len
structure SprOk (P : Par) (zs : List Int) (n : Nat) : Prop where
  pl : POk (P.at false)
  ph : POk (P.at true)
  zl : StartOk (P.at false) zs n
  zh : StartOk (P.at true) zs n
theorem SprOk.mk' {P : Par} {zs : List Int} {n : Nat} (hP : POk P) (hz : StartOk P zs n) : SprOk P zs n :=
  ⟨⟨hP.chk, hP.sea, hP.keep, hP.land, hP.loss, hP.small⟩, ⟨hP.chk, hP.sea, hP.keep, hP.land, hP.loss, hP.small⟩, ⟨hz.len, hz.cell, hz.time, hz.rise⟩, ⟨hz.len, hz.cell, hz.time, hz.rise⟩⟩
theorem zeros8 {n : Nat} : zeros n [.int .i64 0, .int .i64 0, .int .i64 0, .int .i64 0, .int .i64 0, .int .i64 0, .int .i64 0, .int .i64 0] = ints (List.replicate (n * 8) 0) := by
  unfold zeros ints
  apply List.ext_getElem (by simp)
  intro i h1 h2
  simp only [List.getElem_map, List.getElem_range, List.getElem_replicate, List.length_cons, List.length_nil]
  have : i % (0 + 1 + 1 + 1 + 1 + 1 + 1 + 1 + 1) < 8 := Nat.mod_lt _ (by omega)
  obtain ⟨j, hj⟩ : ∃ j, j = i % (0 + 1 + 1 + 1 + 1 + 1 + 1 + 1 + 1) := ⟨_, rfl⟩
  rw [← hj] at this ⊢
  rcases j with _ | _ | _ | _ | _ | _ | _ | _ | j <;> first | rfl | omega
theorem makeS8 {A : Hp} {n : Nat} (hn : n < 1000000) : makeSA 8 64 [.int .i64 0, .int .i64 0, .int .i64 0, .int .i64 0, .int .i64 0, .int .i64 0, .int .i64 0, .int .i64 0] (.int .i64 n) (.int .i64 n) A = some (.slice (some ⟨A.n, 0, some 8⟩) n n, A.push (.cells (ints (List.replicate (n * 8) 0)) false)) := by
  unfold makeSA
  simp only
  rw [if_pos ⟨by omega, by omega, by unfold room; omega, by unfold room; omega⟩, zeros8]
  rfl
structure SprFin (P : Par) (zs : List Int) (n : Nat) : Prop where
  fl : SheetFin (P.at false) zs n
  fh : SheetFin (P.at true) zs n
section
variable {g : Nat} {A : Hp} {V : Value → Hp → Prop}
theorem w45 {P : Par} {zs : List Int} {n : Nat} {sls : Value} (hK : SprOk P zs n) (hgr : groundOf A P.sl = some P.l) (hn : n < 1000000) (hr : RdLow A 5 n A.n (ints zs) sls) (hg : g ≤ A.n)
    (hQ : ∀ A' x, Ext' A A' → A.n ≤ x → A'.get x = some (.cells (ints (bounds P zs n)) false) → SprFin P zs n → V (.slice (some ⟨x, 0, some 8⟩) P.l.length P.l.length) A') :
    WF AP KL g 45 [gridV P.w P.h P.s P.sl, spn P.slo P.shi, modelV P.k0 P.k1 P.l0 P.l1 P.o0 P.o1, sls] A V := by
  have hsm : P.l.length ≤ 40 := hK.pl.small
  have hlen : lenV P.sl = some (.int .i64 P.l.length) := by
    rcases (groundOf_cases hgr).2 with ⟨h1, h2⟩ | ⟨x, cap, ro, h1, _⟩
    · rw [h1, h2]; rfl
    · rw [h1]; rfl
  obtain ⟨B, hB⟩ : ∃ B, B = ((A.push (.cells [.int .i64 P.w, .int .i64 P.h, .int .i64 P.s, P.sl] false)).push (.cells [.int .i64 P.slo, .int .i64 P.shi] false)).push (.cells [.int .i64 P.k0, .int .i64 P.k1, .int .i64 P.l0, .int .i64 P.l1, .int .i64 P.o0, .int .i64 P.o1] false) := ⟨_, rfl⟩
  have kB : Ext' A B := by rw [hB]; exact ((Ext'.push _ _).trans (Ext'.push _ _)).trans (Ext'.push _ _)
  have b4 : B.get A.n = some (.cells [.int .i64 P.w, .int .i64 P.h, .int .i64 P.s, P.sl] false) := by rw [hB]; exact push3_a
  have b5 : B.get (A.n + 1) = some (.cells [.int .i64 P.slo, .int .i64 P.shi] false) := by rw [hB]; exact push3_b
  have b6 : B.get (A.n + 2) = some (.cells [.int .i64 P.k0, .int .i64 P.k1, .int .i64 P.l0, .int .i64 P.l1, .int .i64 P.o0, .int .i64 P.o1] false) := by rw [hB]; exact push3_c
  have nB : B.n = A.n + 3 := by rw [hB]; rfl
  rw [WF_body rfl (show AP 45 = some F45 from rfl)]
  simp (disch := as_aux_lemma => first | omega | simp only [hDs] <;> omega | simp [isCell]) [hRs, takeMarks, resA, resAll, resOne, Value.cells, gridV, spn, modelV, J]
  rw [← hB]
  refine w61 (by omega) fun A1 k1 => ?_
  have c4 := k1.get b4
  have c5 := k1.get b5
  have c6 := k1.get b6
  have n1 := k1.1
  simp (disch := as_aux_lemma => first | omega | simp only [hDs] <;> omega | simp [isCell]) [hRs, takeMarks, resA, resAll, resOne, Value.cells, c4, c5, c6]
  refine w60 (P := P.at false) (zs := zs) (n := n) hK.pl (groundOf_mono (groundOf_mono hgr kB.2) k1.2) hK.zl hn ?_ (by omega) fun A2 Xl al sl ul ll k2 hal hSl hFl => ?_
  · obtain ⟨h0, h | ⟨x, c, ro, h1, h2, h3⟩⟩ := hr
    · exact ⟨h0, .inl h⟩
    · exact ⟨h0, .inr ⟨x, c, ro, h1, k1.get (kB.get h2), by omega⟩⟩
  have n2 := k2.1
  simp (disch := as_aux_lemma => first | omega | simp only [hDs] <;> omega | simp [isCell]) [hRs, takeMarks, resA, resAll, resOne, Value.cells, ptrV]
  refine w62 (by omega) fun A3 k3 => ?_
  have n3 := k3.1
  have k13 := k2.trans k3
  have c4 := k13.get c4
  have c5 := k13.get c5
  have c6 := k13.get c6
  simp (disch := as_aux_lemma => first | omega | simp only [hDs] <;> omega | simp [isCell]) [hRs, takeMarks, resA, resAll, resOne, Value.cells, c4, c5, c6]
  refine w60 (P := P.at true) (zs := zs) (n := n) hK.ph (groundOf_mono (groundOf_mono (groundOf_mono hgr kB.2) k1.2) k13.2) hK.zh hn ?_ (by omega) fun A4 Xh ah sh uh lh k4 hah hSh hFh => ?_
  · obtain ⟨h0, h | ⟨x, c, ro, h1, h2, h3⟩⟩ := hr
    · exact ⟨h0, .inl h⟩
    · exact ⟨h0, .inr ⟨x, c, ro, h1, k13.get (k1.get (kB.get h2)), by omega⟩⟩
  have c4 := k4.get c4
  have c5 := k4.get c5
  have n4 := k4.1
  simp (disch := as_aux_lemma => first | omega | simp only [hDs] <;> omega | simp [isCell]) [hRs, takeMarks, resA, resAll, resOne, Value.cells, ptrV, c4, hlen, makeS8 (show P.l.length < 1000000 by omega)]
  obtain ⟨C, hC⟩ : ∃ C, C = A4.push (.cells (ints (List.replicate (P.l.length * 8) 0)) false) := ⟨_, rfl⟩
  have kC : Ext' A4 C := by rw [hC]; exact Ext'.push _ _
  have gC : C.get A4.n = some (.cells (ints (List.replicate (P.l.length * 8) 0)) false) := by rw [hC]; exact get_push_new
  rw [← hC]
  have hSl4 := (hSl.ext (k3.trans k4)).ext kC
  have hSh4 := hSh.ext kC
  have hXl := Hp.lt_of_get (hSl.ext (k3.trans k4)).hx
  have hXh := Hp.lt_of_get hSh.hx
  have kAll : Ext' A C := kB.trans (k1.trans (k13.trans (k4.trans kC)))
  refine loop45 (E := ⟨P, zs, n, Xl, al, sl, ul, ll, Xh, ah, sh, uh, lh, A4.n, A.n + 1, g⟩) (A0 := C) ⟨hK.pl, hK.ph, hK.zl, hK.zh, hFl, hFh, hXl, hXh, by show A.n + 1 < A4.n; omega, by show g ≤ A4.n; omega⟩ (fun T' A' h t11 => ?_) P.l.length 0 _ C (by show 0 + P.l.length = P.l.length; omega) ⟨hSl4, hSh4, gC, kC.get c5, Keep.refl _ _⟩ ?_ ?_ ?_ ?_ ?_ ?_ ?_
  · simp (disch := as_aux_lemma => first | omega | simp only [hDs] <;> omega | simp [isCell]) [hRs, takeMarks, resA, resAll, resOne, Value.cells, t11]
    refine hQ A' A4.n ⟨by have := h.keep.1; have := kAll.1; omega, fun y hy => ?_⟩ (by omega) ?_ ⟨hFl, hFh⟩
    · rw [h.keep.2 y (by have := kAll.1; omega) (by show ¬ y = A4.n; omega), kAll.2 y hy]
    · have := h.out
      rw [show Spr.full ⟨P, zs, n, Xl, al, sl, ul, ll, Xh, ah, sh, uh, lh, A4.n, A.n + 1, g⟩ P.l.length = bounds P zs n from ?_] at this
      · exact this
      · unfold Spr.full
        simp only [Nat.sub_self, Nat.zero_mul, List.replicate_zero, List.append_nil]
        rfl
  all_goals simp [ptrV]
end
end Go.Ab.Wave
namespace Go.Ab.Wave
open Go Go.Ab
def prepE (P : Par) : Int := if checkG P.w P.h P.s P.l = 0 then (if inS P.slo P.shi (-20000) 20000 = true then checkM P.k0 P.k1 P.l0 P.l1 P.o0 P.o1 else 3) else checkG P.w P.h P.s P.l
theorem inS_iff {lo hi a b : Int} : inS lo hi a b = true ↔ a ≤ lo ∧ lo ≤ hi ∧ hi ≤ b := by
  unfold inS; simp; omega
theorem prep_ok {P : Par} (h : prepE P = 0) (hs : P.l.length ≤ 40) : POk P := by
  unfold prepE at h
  split at h
  · rename_i h1
    split at h
    · rename_i h2
      unfold checkM at h
      split at h
      · cases h
      · rename_i h3
        simp only [not_or, Bool.not_eq_false, inS_iff] at h3
        rw [inS_iff] at h2
        exact ⟨h1, ⟨h2.1, h2.2.1, h2.2.2⟩, h3.1, h3.2.1, h3.2.2, hs⟩
    · cases h
  · rename_i h1; exact absurd h h1
def stBad (P : Par) (zs : List Int) (i : Nat) : Int :=
  if gi zs (i * 5) < 0 ∨ (P.l.length : Int) ≤ gi zs (i * 5) then 4
  else if inS (gi zs (i * 5 + 1)) (gi zs (i * 5 + 2)) 0 1000000000 = true ∧ inS (gi zs (i * 5 + 3)) (gi zs (i * 5 + 4)) 0 5000 = true then 0 else 3
def stE (P : Par) (zs : List Int) : Nat → Nat → Int
  | _, 0 => 0
  | i, k + 1 => if stBad P zs i = 0 then stE P zs (i + 1) k else stBad P zs i
theorem stE_zero {P : Par} {zs : List Int} : ∀ {k i : Nat}, stE P zs i k = 0 → ∀ j, i ≤ j → j < i + k → stBad P zs j = 0
  | 0, i, _, j, h1, h2 => by omega
  | k + 1, i, h, j, h1, h2 => by
    unfold stE at h
    split at h
    · rename_i h0
      by_cases e : j = i
      · rw [e]; exact h0
      · exact stE_zero h j (by omega) (by omega)
    · contradiction
theorem stBad_zero {P : Par} {zs : List Int} {i : Nat} (h : stBad P zs i = 0) : (0 ≤ gi zs (i * 5) ∧ gi zs (i * 5) < P.l.length) ∧ (0 ≤ gi zs (i * 5 + 1) ∧ gi zs (i * 5 + 1) ≤ gi zs (i * 5 + 2) ∧ gi zs (i * 5 + 2) ≤ 1000000000) ∧ (0 ≤ gi zs (i * 5 + 3) ∧ gi zs (i * 5 + 3) ≤ gi zs (i * 5 + 4) ∧ gi zs (i * 5 + 4) ≤ 5000) := by
  unfold stBad at h
  split at h
  · cases h
  · rename_i h1
    split at h
    · rename_i h2
      rw [inS_iff, inS_iff] at h2
      exact ⟨by omega, h2.1, h2.2⟩
    · cases h
theorem start_ok {P : Par} {zs : List Int} {n : Nat} (hl : zs.length = n * 5) (h : stE P zs 0 n = 0) : StartOk P zs n :=
  ⟨hl, fun i hi => (stBad_zero (stE_zero h i (by omega) (by omega))).1, fun i hi => (stBad_zero (stE_zero h i (by omega) (by omega))).2.1, fun i hi => (stBad_zero (stE_zero h i (by omega) (by omega))).2.2⟩
def sprE (P : Par) (zs : List Int) (n : Nat) : Int := if prepE P = 0 then (if 512 < n then 9 else stE P zs 0 n) else prepE P
noncomputable def sprRes (P : Par) (zs : List Int) (n : Nat) : List Int := if sprE P zs n = 0 then bounds P zs n else []
section
variable {g : Nat} {A : Hp} {V : Value → Hp → Prop} {P : Par} {zs : List Int} {n : Nat} {sls : Value}
theorem w44 (hgr : groundOf A P.sl = some P.l) (hg : g ≤ A.n) (hQ : ∀ A', Ext' A A' → V (.int .i64 (prepE P)) A') : WF AP KL g 44 [gridV P.w P.h P.s P.sl, spn P.slo P.shi, modelV P.k0 P.k1 P.l0 P.l1 P.o0 P.o1] A V := by
  obtain ⟨B, hB⟩ : ∃ B, B = ((A.push (.cells [.int .i64 P.w, .int .i64 P.h, .int .i64 P.s, P.sl] false)).push (.cells [.int .i64 P.slo, .int .i64 P.shi] false)).push (.cells [.int .i64 P.k0, .int .i64 P.k1, .int .i64 P.l0, .int .i64 P.l1, .int .i64 P.o0, .int .i64 P.o1] false) := ⟨_, rfl⟩
  have kB : Ext' A B := by rw [hB]; exact ((Ext'.push _ _).trans (Ext'.push _ _)).trans (Ext'.push _ _)
  have b4 : B.get A.n = some (.cells [.int .i64 P.w, .int .i64 P.h, .int .i64 P.s, P.sl] false) := by rw [hB]; exact push3_a
  have b5 : B.get (A.n + 1) = some (.cells [.int .i64 P.slo, .int .i64 P.shi] false) := by rw [hB]; exact push3_b
  have b6 : B.get (A.n + 2) = some (.cells [.int .i64 P.k0, .int .i64 P.k1, .int .i64 P.l0, .int .i64 P.l1, .int .i64 P.o0, .int .i64 P.o1] false) := by rw [hB]; exact push3_c
  have hgB := groundOf_mono hgr kB.2
  have hq := hQ B kB
  unfold prepE at hq
  rw [WF_body rfl (show AP 44 = some F44 from rfl)]
  by_cases h1 : checkG P.w P.h P.s P.l = 0
  · by_cases h2 : inS P.slo P.shi (-20000) 20000 = true
    · simp (disch := as_aux_lemma => first | omega | simp only [hDs] <;> omega | simp [isCell]) [hRs, takeMarks, resA, resAll, resOne, Value.cells, gridV, spn, modelV, J]
      rw [← hB]
      simp (disch := as_aux_lemma => first | omega | simp only [hDs] <;> omega | simp [isCell]) [hRs, takeMarks, resA, resAll, resOne, Value.cells, b4, b5, b6, WF_spec (show KL 37 = some S37 from rfl), S37_eq hgB, WF_spec (show KL 42 = some S42 from rfl), S42_eq, WF_spec (show KL 13 = some S13 from rfl), S13_eq, h1, h2]
      rw [if_pos h1, if_pos h2] at hq
      exact hq
    · simp (disch := as_aux_lemma => first | omega | simp only [hDs] <;> omega | simp [isCell]) [hRs, takeMarks, resA, resAll, resOne, Value.cells, gridV, spn, modelV, J]
      rw [← hB]
      simp (disch := as_aux_lemma => first | omega | simp only [hDs] <;> omega | simp [isCell]) [hRs, takeMarks, resA, resAll, resOne, Value.cells, b4, b5, b6, WF_spec (show KL 37 = some S37 from rfl), S37_eq hgB, WF_spec (show KL 42 = some S42 from rfl), S42_eq, WF_spec (show KL 13 = some S13 from rfl), S13_eq, h1, h2]
      rw [if_pos h1, if_neg h2] at hq
      exact hq
  · simp (disch := as_aux_lemma => first | omega | simp only [hDs] <;> omega | simp [isCell]) [hRs, takeMarks, resA, resAll, resOne, Value.cells, gridV, spn, modelV, J]
    rw [← hB]
    simp (disch := as_aux_lemma => first | omega | simp only [hDs] <;> omega | simp [isCell]) [hRs, takeMarks, resA, resAll, resOne, Value.cells, b4, b5, b6, WF_spec (show KL 37 = some S37 from rfl), S37_eq hgB, h1]
    rw [if_neg h1] at hq
    exact hq
end
end Go.Ab.Wave
namespace Go.Ab.Wave
open Go Go.Ab
section
variable {g : Nat} {A : Hp} {V : Value → Hp → Prop} {P : Par} {zs : List Int} {n : Nat} {sls : Value}
theorem loop27 {D : List Nat} {rd : Option Nat} {Q : Ex → St → Prop} {A0 : Hp} {b4 : Nat} {T0 : List Value} (hn : n < 1000000) (hlen : lenV P.sl = some (.int .i64 P.l.length)) (hg : g ≤ A0.n)
    (hb : A0.get b4 = some (.cells [.int .i64 P.w, .int .i64 P.h, .int .i64 P.s, P.sl] false)) (hr : RdS A0 5 n (ints zs) sls)
    (hQ : ∀ T' A', Ext' A0 A' → stE P zs 0 n = 0 → (∀ i, i < 10 → tget T' i = tget T0 i) → Q (.exit 0) ⟨T', D, A'⟩)
    (hE : ∀ T' A', Ext' A0 A' → stE P zs 0 n ≠ 0 → tget T' 8 = .slice none 0 0 → tget T' 9 = .int .i64 (stE P zs 0 n) → Q .ret ⟨T', D, A'⟩) :
    ∀ (k i : Nat) (T : List Value) (A : Hp), i + k = n → Ext' A0 A → stE P zs 0 n = stE P zs i k → (∀ i, i < 10 → tget T i = tget T0 i) → tget T0 4 = ptrV b4 → tget T 23 = sls → tget T 24 = .int .i64 n → tget T 25 = .int .i64 i → W AP KL g rd (.loop body27) ⟨T, D, A⟩ Q := by
  intro k
  have hzl : zs.length = n * 5 := by have := hr.1; rwa [ints_length] at this
  induction k with
  | zero =>
    intro i T A hi hE0 he hT t4 t23 t24 t25
    have : i = n := by omega
    subst this
    rw [W_loop]
    simp (disch := as_aux_lemma => first | omega | simp only [hDs] <;> omega | simp [isCell]) [hRs, takeMarks, resA, resAll, resOne, Value.cells, body27, t24, t25]
    refine hQ _ A hE0 (by rw [he]; rfl) fun j hj => ?_
    simp only [tget_tset]
    rw [if_neg (by omega)]
    exact hT j hj
  | succ k ih =>
    intro i T A hi hE0 he hT t4' t23 t24 t25
    have t4 := (hT 4 (by omega)).trans t4'
    obtain ⟨y, cap, ro, hsl, hy⟩ := hr.at (i := i) (by omega)
    have hy := hE0.get hy
    have hyn := Hp.lt_of_get hy
    have hbA := hE0.get hb
    have hbn := Hp.lt_of_get hbA
    have hgA := hE0.1
    obtain ⟨B, hB⟩ : ∃ B, B = A.push (.cells [.int .i64 (gi zs (i * 5)), .int .i64 (gi zs (i * 5 + 1)), .int .i64 (gi zs (i * 5 + 2)), .int .i64 (gi zs (i * 5 + 3)), .int .i64 (gi zs (i * 5 + 4))] false) := ⟨_, rfl⟩
    have kB : Ext' A B := by rw [hB]; exact Ext'.push _ _
    have gB : B.get A.n = some (.cells [.int .i64 (gi zs (i * 5)), .int .i64 (gi zs (i * 5 + 1)), .int .i64 (gi zs (i * 5 + 2)), .int .i64 (gi zs (i * 5 + 3)), .int .i64 (gi zs (i * 5 + 4))] false) := by rw [hB]; exact get_push_new
    have hbB := kB.get hbA
    have bad : ∀ (T' : List Value), stBad P zs i ≠ 0 → tget T' 8 = .slice none 0 0 → tget T' 9 = .int .i64 (stBad P zs i) → Q .ret ⟨T', D, B⟩ := by
      intro T' h h8 h9
      have e : stE P zs 0 n = stBad P zs i := by rw [he]; unfold stE; rw [if_neg h]
      exact hE T' B (hE0.trans kB) (by rw [e]; exact h) h8 (by rw [e]; exact h9)
    rw [W_loop]
    simp (disch := as_aux_lemma => first | omega | simp only [hDs] <;> omega | simp [isCell]) [hRs, takeMarks, resA, resAll, resOne, Value.cells, body27, t24, t25, t23, hsl, show (i : Int) < (n : Int) by omega, idxSA_ok, hy, ints_5, cellsFrom, storeB_cells, setRange_all]
    rw [← hB]
    by_cases c1 : gi zs (i * 5) < 0
    · simp (disch := as_aux_lemma => first | omega | simp only [hDs] <;> omega | simp [isCell]) [hRs, takeMarks, resA, resAll, resOne, Value.cells, gB, c1]
      refine bad _ ?_ ?_ ?_
      · simp [stBad, c1]
      · simp
      · simp [stBad, c1]
    · by_cases c2 : (P.l.length : Int) ≤ gi zs (i * 5)
      · simp (disch := as_aux_lemma => first | omega | simp only [hDs] <;> omega | simp [isCell]) [hRs, takeMarks, resA, resAll, resOne, Value.cells, gB, c1, t4, ptrV, hbB, hlen, c2]
        refine bad _ ?_ ?_ ?_
        · simp [stBad, c2]
        · simp
        · simp [stBad, c2]
      · by_cases c3 : inS (gi zs (i * 5 + 1)) (gi zs (i * 5 + 2)) 0 1000000000 = true
        · by_cases c4 : inS (gi zs (i * 5 + 3)) (gi zs (i * 5 + 4)) 0 5000 = true
          · simp (disch := as_aux_lemma => first | omega | simp only [hDs] <;> omega | simp [isCell]) [hRs, takeMarks, resA, resAll, resOne, Value.cells, gB, c1, t4, ptrV, hbB, hlen, c2, WF_spec (show KL 42 = some S42 from rfl), S42_eq, c3, c4, t25]
            have e0 : stBad P zs i = 0 := by simp [stBad, c1, c2, c3, c4]
            refine ih (i + 1) _ B (by omega) (hE0.trans kB) ?_ ?_ t4' ?_ ?_ ?_
            · rw [he]; show (if stBad P zs i = 0 then _ else _) = _; rw [if_pos e0]
            · intro j hj
              simp only [tget_tset]
              repeat (rw [if_neg (by omega)])
              exact hT j hj
            · simp [t23, hsl]
            · simp [t24]
            · simp [t25, wrId (n := (i : Int) + 1) (by omega) (by omega)]
          · simp (disch := as_aux_lemma => first | omega | simp only [hDs] <;> omega | simp [isCell]) [hRs, takeMarks, resA, resAll, resOne, Value.cells, gB, c1, t4, ptrV, hbB, hlen, c2, WF_spec (show KL 42 = some S42 from rfl), S42_eq, c3, c4]
            refine bad _ ?_ ?_ ?_
            · simp [stBad, c1, c2, c3, c4]
            · simp
            · simp [stBad, c1, c2, c3, c4]
        · simp (disch := as_aux_lemma => first | omega | simp only [hDs] <;> omega | simp [isCell]) [hRs, takeMarks, resA, resAll, resOne, Value.cells, gB, c1, t4, ptrV, hbB, hlen, c2, WF_spec (show KL 42 = some S42 from rfl), S42_eq, c3]
          refine bad _ ?_ ?_ ?_
          · simp [stBad, c1, c2, c3]
          · simp
          · simp [stBad, c1, c2, c3]
theorem RdS.low {k n : Nat} {cs : List Value} {sv : Value} (h : RdS A k n cs sv) : RdLow A k n A.n cs sv := by
  obtain ⟨h0, h | ⟨x, c, ro, h1, h2⟩⟩ := h
  · exact ⟨h0, .inl h⟩
  · exact ⟨h0, .inr ⟨x, c, ro, h1, h2, Hp.lt_of_get h2⟩⟩
theorem w27 (hs : P.l.length ≤ 40) (hgr : groundOf A P.sl = some P.l) (hn : n < 1000000) (hr : RdS A 5 n (ints zs) sls) (hg : g ≤ A.n)
    (hQ : ∀ A' sv, Ext' A A' → AccS A.n A' 8 (ints (sprRes P zs n)) sv → (sprE P zs n = 0 → SprOk P zs n ∧ SprFin P zs n) → V (.tuple ⟨[sv, .int .i64 (sprE P zs n)]⟩) A') :
    WF AP KL g 27 [gridV P.w P.h P.s P.sl, spn P.slo P.shi, modelV P.k0 P.k1 P.l0 P.l1 P.o0 P.o1, sls] A V := by
  have hzl : zs.length = n * 5 := by have := hr.1; rwa [ints_length] at this
  have hlen : lenV P.sl = some (.int .i64 P.l.length) := by
    rcases (groundOf_cases hgr).2 with ⟨h1, h2⟩ | ⟨x, cap, ro, h1, _⟩
    · rw [h1, h2]; rfl
    · rw [h1]; rfl
  have hlenS := hr.len
  obtain ⟨B, hB⟩ : ∃ B, B = ((A.push (.cells [.int .i64 P.w, .int .i64 P.h, .int .i64 P.s, P.sl] false)).push (.cells [.int .i64 P.slo, .int .i64 P.shi] false)).push (.cells [.int .i64 P.k0, .int .i64 P.k1, .int .i64 P.l0, .int .i64 P.l1, .int .i64 P.o0, .int .i64 P.o1] false) := ⟨_, rfl⟩
  have kB : Ext' A B := by rw [hB]; exact ((Ext'.push _ _).trans (Ext'.push _ _)).trans (Ext'.push _ _)
  have b4 : B.get A.n = some (.cells [.int .i64 P.w, .int .i64 P.h, .int .i64 P.s, P.sl] false) := by rw [hB]; exact push3_a
  have b5 : B.get (A.n + 1) = some (.cells [.int .i64 P.slo, .int .i64 P.shi] false) := by rw [hB]; exact push3_b
  have b6 : B.get (A.n + 2) = some (.cells [.int .i64 P.k0, .int .i64 P.k1, .int .i64 P.l0, .int .i64 P.l1, .int .i64 P.o0, .int .i64 P.o1] false) := by rw [hB]; exact push3_c
  have nB : B.n = A.n + 3 := by rw [hB]; rfl
  have hgB := groundOf_mono hgr kB.2
  have bad : ∀ A' e, Ext' A A' → sprE P zs n = e → e ≠ 0 → V (.tuple ⟨[.slice none 0 0, .int .i64 e]⟩) A' := by
    intro A' e k h h0
    have := hQ A' (.slice none 0 0) k (.inl ⟨rfl, by unfold sprRes; rw [if_neg (by rw [h]; exact h0)]; rfl⟩) (fun h' => absurd (h ▸ h') h0)
    rw [h] at this
    exact this
  rw [WF_body rfl (show AP 27 = some F27 from rfl)]
  simp (disch := as_aux_lemma => first | omega | simp only [hDs] <;> omega | simp [isCell]) [hRs, takeMarks, resA, resAll, resOne, Value.cells, gridV, spn, modelV, J]
  rw [← hB]
  refine w44 hgB (by omega) fun A1 k1 => ?_
  have c4 := k1.get b4
  have c5 := k1.get b5
  have c6 := k1.get b6
  have n1 := k1.1
  by_cases h1 : prepE P = 0
  · by_cases h2 : 512 < n
    · simp (disch := as_aux_lemma => first | omega | simp only [hDs] <;> omega | simp [isCell]) [hRs, takeMarks, resA, resAll, resOne, Value.cells, h1, hlenS, show (512 : Int) < n by omega]
      exact bad _ 9 (kB.trans k1) (by unfold sprE; rw [if_pos h1, if_pos h2]) (by omega)
    · have he : sprE P zs n = stE P zs 0 n := by unfold sprE; rw [if_pos h1, if_neg h2]
      simp (disch := as_aux_lemma => first | omega | simp only [hDs] <;> omega | simp [isCell]) [hRs, takeMarks, resA, resAll, resOne, Value.cells, h1, hlenS, show ¬ (512 : Int) < n by omega]
      refine loop27 (A0 := A1) (b4 := A.n) hn hlen (by omega) c4 (hr.mono (kB.trans k1).2) (fun T' A2 k2 h3 hT => ?_) (fun T' A2 k2 h3 h8 h9 => ?_) n 0 _ A1 (by omega) (Ext'.refl _) rfl (fun _ _ => rfl) ?_ ?_ ?_ ?_
      · have q4 := hT 4 (by omega)
        have q5 := hT 5 (by omega)
        have q6 := hT 6 (by omega)
        have q3 := hT 3 (by omega)
        simp at q4 q5 q6 q3
        have d4 := k2.get c4
        have d5 := k2.get c5
        have d6 := k2.get c6
        have n2 := k2.1
        have hok : SprOk P zs n := SprOk.mk' (prep_ok h1 hs) (start_ok hzl h3)
        have kA := (kB.trans k1).trans k2
        simp (disch := as_aux_lemma => first | omega | simp only [hDs] <;> omega | simp [isCell]) [hRs, takeMarks, resA, resAll, resOne, Value.cells, q4, q5, q6, q3, d4, d5, d6]
        refine w45 hok (groundOf_mono hgr kA.2) hn (RdS.low (hr.mono kA.2)) (by omega) fun A3 x k3 hx g3 hF => ?_
        simp (disch := as_aux_lemma => first | omega | simp only [hDs] <;> omega | simp [isCell]) [hRs, takeMarks, resA, resAll, resOne, Value.cells]
        have h0 : sprE P zs n = 0 := by rw [he]; exact h3
        have hpos := hok.pl.pos
        have hpos : 0 < P.l.length := hpos
        have hlb : (ints (bounds P zs n)).length = P.l.length * 8 := by rw [ints_length]; exact bounds_len
        have := hQ A3 (.slice (some ⟨x, 0, some 8⟩) P.l.length P.l.length) (kA.trans k3) (by
          unfold sprRes
          rw [if_pos h0]
          exact .inr ⟨x, P.l.length, rfl, g3, by have := kA.1; omega, hlb, hpos⟩) fun _ => ⟨hok, hF⟩
        rw [h0] at this
        exact this
      · simp (disch := as_aux_lemma => first | omega | simp only [hDs] <;> omega | simp [isCell]) [hRs, takeMarks, resA, resAll, resOne, Value.cells, h8, h9]
        exact bad A2 _ ((kB.trans k1).trans k2) he h3
      all_goals simp [ptrV]
  · simp (disch := as_aux_lemma => first | omega | simp only [hDs] <;> omega | simp [isCell]) [hRs, takeMarks, resA, resAll, resOne, Value.cells, h1]
    exact bad A1 _ (kB.trans k1) (by unfold sprE; rw [if_neg h1]) h1
end
end Go.Ab.Wave
namespace Go.Ab.Wave
open Go Go.Ab
def flat5 (tlo thi rlo rhi : Int) (cs : List Nat) : List Int := cs.flatMap fun (j : Nat) => [(j : Int), tlo, thi, rlo, rhi]
def nearC (w cell f : Int) (i k : Nat) : List Nat := (List.range' i k).filter fun j => decide (awayV w cell (j : Nat) ≤ f)
structure Src where
  k : Int
  c : Int
  cl : Int
  lo : Int
  hi : Int
def Src.v (S : Src) : Value := srcV S.k S.c S.cl S.lo S.hi
def Src.err (S : Src) (n : Nat) : Int := srcErr n S.k S.c S.cl S.lo S.hi
def srcC (P : Par) (S : Src) : List Nat := nearC P.w S.c (farK S.k S.cl) 0 P.l.length
def srcZ (P : Par) (S : Src) : List Int := flat5 S.lo S.hi (riseLo S.k (pw S.cl)) (riseHi S.k (pw S.cl)) (srcC P S)
section
variable {g : Nat} {A : Hp} {V : Value → Hp → Prop} {P : Par} {S : Src}
end
end Go.Ab.Wave
namespace Go.Ab.Wave
open Go Go.Ab
section
variable {g : Nat} {A : Hp} {V : Value → Hp → Prop}
theorem set_push_eq {x : Nat} {b b' : ABlk} (h : x ≤ A.n ∧ A.n ≤ x) : (A.push b).set x (some b') = A.push b' := by rw [show x = A.n by omega, set_push_new]
end
end Go.Ab.Wave
namespace Go.Ab.Wave
open Go Go.Ab
section
variable {g : Nat} {D : List Nat} {rd : Option Nat} {Q : Ex → St → Prop}
end
end Go.Ab.Wave
namespace Go.Ab.Wave
open Go Go.Ab
def srcAt (ss : List Int) (i : Nat) : Src := ⟨gi ss (i * 5), gi ss (i * 5 + 1), gi ss (i * 5 + 2), gi ss (i * 5 + 3), gi ss (i * 5 + 4)⟩
def SrcFin (P : Par) (S : Src) : Prop := SprOk P (srcZ P S) (srcC P S).length ∧ SprFin P (srcZ P S) (srcC P S).length
section
variable {g : Nat} {D : List Nat} {rd : Option Nat} {Q : Ex → St → Prop} {P : Par} {ss : List Int} {n : Nat} {sls : Value}
end
end Go.Ab.Wave
namespace Go.Ab.Wave
open Go Go.Ab
structure WaveFin (P : Par) (ss : List Int) (n : Nat) : Prop where
  prep : prepE P = 0
  none : n = 0 → SprOk P [] 0 ∧ SprFin P [] 0
  one : ∀ j, j < n → (srcAt ss j).err P.l.length = 0 ∧ SrcFin P (srcAt ss j)
section
variable {g : Nat} {A : Hp} {V : Value → Hp → Prop} {P : Par} {ss : List Int} {n : Nat} {sls : Value}
end
end Go.Ab.Wave
namespace Go.Ab.Wave
open Go Go.Ab
theorem Stl.dom {S T : Stl} {vs0 la0 vs la vs0' : List Int} (hs : S.Fin vs0 la0 vs la) (hn : T.n = S.n) (hnb : ∀ a, a < S.n → ∀ b, b ∈ T.nb a → b ∈ S.nb a) (hlt : ∀ a b, b ∈ S.nb a → b < S.n)
    (h0 : ∀ b, b < S.n → S.key (gi vs0 b) ≤ S.key (gi vs0' b))
    (hst : ∀ a b u, a < S.n → b ∈ S.nb a → S.key (gi vs a) ≤ S.key u → (T.sp a b u).2 = true → ((S.sp a b (gi vs a)).2 = true ∧ S.key (S.sp a b (gi vs a)).1 ≤ S.key (T.sp a b u).1) ∨ S.key (gi vs b) ≤ S.key (T.sp a b u).1) :
    ∀ {b : Nat} {u : Int}, T.Der vs0' b u → S.key (gi vs b) ≤ S.key u := by
  intro b u h
  induction h with
  | init hb => exact Int.le_trans (hs.mid.imp _ (hn ▸ hb)) (h0 _ (hn ▸ hb))
  | step ha _ hb hs' ih =>
    have ha' := hn ▸ ha
    have hb' := hnb _ ha' _ hb
    rcases hst _ _ _ ha' hb' ih hs' with ⟨h1, h2⟩ | h
    · have := (hs.cl _ _ ha' hb' h1).1
      omega
    · exact h
theorem rt_nn {b : Bool} {x : Int} : 0 ≤ x → 0 ≤ rt b x := fun h => le_rt h (by omega) (by omega)
theorem rt_le_le {b b' : Bool} (h : b = true → b' = true) {x y : Int} (hx : 0 ≤ x) (hxy : x ≤ y) : rt b x ≤ rt b' y := by
  have hy : 0 ≤ y := by omega
  have mono : ∀ {x y : Int}, 0 ≤ x → x ≤ y → rootI x ≤ rootI y := fun {x y} hx hxy => by
    unfold rootI
    have := isq_lt (n := y.toNat) (r := isq x.toNat)
    have h1 := (isq_spec x.toNat).1
    have := this.2 (by omega)
    omega
  have up : ∀ {x : Int}, 0 ≤ x → rootI x ≤ rootUpI x := fun {x} hx => by
    have := rt_le (b := false) (n := x) (r := rootUpI x) hx (rt_nn (b := true) hx)
    unfold rootUpI
    split
    · rename_i h0; subst h0; decide
    · have h1 := (isq_spec (x - 1).toNat).2
      have h2 := (isq_spec x.toNat).1
      unfold rootI
      have := isq_lt (n := (x - 1).toNat) (r := isq x.toNat - 1)
      rcases Nat.eq_zero_or_pos (isq x.toNat) with h3 | h3
      · omega
      · have h4 : (isq x.toNat - 1) * (isq x.toNat - 1) ≤ (x - 1).toNat := by
          obtain ⟨r, hr⟩ : ∃ r, isq x.toNat = r + 1 := ⟨isq x.toNat - 1, by omega⟩
          rw [hr] at h2 ⊢
          rw [Nat.add_mul, Nat.mul_add] at h2
          simp only [Nat.add_sub_cancel]
          omega
        have := this.2 h4
        omega
  have upm : ∀ {x y : Int}, 0 ≤ x → x ≤ y → rootUpI x ≤ rootUpI y := fun {x y} hx hxy => by
    unfold rootUpI
    split
    · split
      · omega
      · have : 0 ≤ rootI (y - 1) := by unfold rootI; omega
        omega
    · rw [if_neg (by omega)]
      have := mono (x := x - 1) (y := y - 1) (by omega) (by omega)
      omega
  unfold rt
  cases b <;> cases b'
  · exact mono hx hxy
  · exact Int.le_trans (mono hx hxy) (up hy)
  · exact absurd (h rfl) (by decide)
  · exact upm hx hxy
theorem tdiv_le_of {x y k : Int} (hx : 0 ≤ x) (hy : 0 < y) (h : x < (k + 1) * y) : x.tdiv y ≤ k := by
  rw [Int.tdiv_eq_ediv_of_nonneg hx]
  have := (Int.ediv_lt_iff_lt_mul hy).2 h
  omega
theorem le_tdiv_of {x y k : Int} (hx : 0 ≤ x) (hy : 0 < y) (h : k * y ≤ x) : k ≤ x.tdiv y := by
  rw [Int.tdiv_eq_ediv_of_nonneg hx]
  exact (Int.le_ediv_iff_mul_le hy).2 h
theorem tdiv_mul_le {x y : Int} (hx : 0 ≤ x) (hy : 0 < y) : x.tdiv y * y ≤ x := by
  rw [Int.tdiv_eq_ediv_of_nonneg hx]
  exact Int.ediv_mul_le x (by omega)
theorem dv_le_le {b b' : Bool} (h : b = true → b' = true) {x y x' y' : Int} (hx : 0 ≤ x) (hxx : x ≤ x') (hy' : 0 < y') (hyy : y' ≤ y) : dv b x y ≤ dv b' x' y' := by
  have down : x.tdiv y ≤ x'.tdiv y' := by
    refine le_tdiv_of (by omega) hy' ?_
    have h1 := tdiv_mul_le hx (show 0 < y by omega)
    have h2 : 0 ≤ x.tdiv y := Int.tdiv_nonneg hx (by omega)
    have := Int.mul_le_mul_of_nonneg_left hyy h2
    omega
  have up1 : x'.tdiv y' ≤ upI x' y' := by
    unfold upI
    exact Int.tdiv_le_tdiv hy' (by omega)
  unfold dv
  cases b <;> cases b'
  · exact down
  · exact Int.le_trans down up1
  · exact absurd (h rfl) (by decide)
  · show upI x y ≤ upI x' y'
    unfold upI
    have hc : 0 ≤ x' + y' - 1 := by omega
    refine tdiv_le_of (by omega) (by omega) ?_
    have h3 : x' ≤ (x' + y' - 1).tdiv y' * y' := by
      rw [Int.tdiv_eq_ediv_of_nonneg hc]
      have := Int.emod_add_mul_ediv (x' + y' - 1) y'
      have := Int.emod_lt_of_pos (x' + y' - 1) hy'
      rw [Int.mul_comm]
      omega
    have h4 : 0 ≤ (x' + y' - 1).tdiv y' := Int.tdiv_nonneg hc (by omega)
    have h5 := Int.mul_le_mul_of_nonneg_left hyy h4
    rw [Int.add_mul]
    omega
theorem dv_nn {b : Bool} {x y : Int} (hx : 0 ≤ x) (hy : 0 < y) : 0 ≤ dv b x y := (dv_bounds hx hy).1
theorem fourth_le_le {b b' : Bool} (h : b = true → b' = true) {d d' : Int} (h1 : 0 ≤ d) (h2 : d ≤ d') : fourthE b d ≤ fourthE b' d' :=
  rt_le_le h (rt_nn (by omega)) (rt_le_le h (by omega) (by omega))
structure Dom (P N : Par) : Prop where
  up : N.up = true → P.up = true
  w : P.w = N.w
  h : P.h = N.h
  s : P.s = N.s
  len : P.l.length = N.l.length
  dep : ∀ c, c < P.l.length → N.dep c ≤ P.dep c
  lst : ∀ c, c < P.l.length → P.lst c ≤ N.lst c
  gr : ∀ c, c < P.l.length → agE P.up (P.glo c) (P.ghi c) ≤ agE N.up (N.glo c) (N.ghi c)
  keep : ofE N.up N.k0 N.k1 ≤ ofE P.up P.k0 P.k1
  land : agE P.up P.l0 P.l1 ≤ agE N.up N.l0 N.l1
  loss : agE P.up P.o0 P.o1 ≤ agE N.up N.o0 N.o1
  sea : ofE N.up N.slo N.shi ≤ ofE P.up P.slo P.shi
structure DomZ (P N : Par) (zp zn : List Int) (n : Nat) : Prop where
  cell : ∀ i, i < n → gi zp (i * 5) = gi zn (i * 5)
  time : ∀ i, i < n → agE P.up (gi zp (i * 5 + 1)) (gi zp (i * 5 + 2)) ≤ agE N.up (gi zn (i * 5 + 1)) (gi zn (i * 5 + 2))
  rise : ∀ i, i < n → ofE N.up (gi zn (i * 5 + 3)) (gi zn (i * 5 + 4)) ≤ ofE P.up (gi zp (i * 5 + 3)) (gi zp (i * 5 + 4))
section
variable {P N : Par} {zp zn : List Int} {n : Nat}
theorem Dom.nb (D : Dom P N) (a : Nat) : nbP N a = nbP P a := by unfold nbP; rw [D.w, D.h]
theorem Dom.down (D : Dom P N) : (!P.up) = true → (!N.up) = true := by
  have := D.up
  revert this
  cases P.up <;> cases N.up <;> simp
theorem Dom.open (D : Dom P N) {a b : Nat} (ha : a < P.l.length) (hb : b < P.l.length) (h : N.open a b = true) : P.open a b = true := by
  obtain ⟨h1, h2⟩ := open_dep h
  have := D.dep a ha
  have := D.dep b hb
  unfold Par.open
  simp; omega
theorem Dom.cross (D : Dom P N) (hP : POk P) {a b : Nat} (ha : a < P.l.length) (hb : b < P.l.length) (h : N.open a b = true) : P.cross a b ≤ N.cross a b := by
  obtain ⟨h1, h2⟩ := open_dep h
  have := D.dep a ha
  have := D.dep b hb
  have hn := hP.num
  unfold Par.cross Par.num Par.den
  rw [← D.s]
  have e : 0 ≤ P.s * P.s * 10000000000 := by omega
  exact rt_le_le D.down (dv_nn e (by omega)) (dv_le_le D.down e (Int.le_refl _) (by omega) (by omega))
theorem arr0_len (P : Par) (zs : List Int) (k : Nat) : (arr0 P zs k).length = P.l.length := by
  induction k with
  | zero => simp [arr0]
  | succ k ih =>
    have e : arr0 P zs (k + 1) = stA P zs (arr0 P zs k) k := by unfold arr0; rw [List.range_succ, List.foldl_append]; rfl
    rw [e]; unfold stA; split <;> simp [ih]
theorem str0_len (P : Par) (zs : List Int) (k : Nat) : (str0 P zs k).length = P.l.length := by
  induction k with
  | zero => simp [str0]
  | succ k ih =>
    have e : str0 P zs (k + 1) = stS P zs (str0 P zs k) k := by unfold str0; rw [List.range_succ, List.foldl_append]; rfl
    rw [e]; unfold stS; split <;> simp [ih]
theorem arr0_get {P : Par} {zs : List Int} {k c : Nat} (hc : stC zs k < P.l.length) :
    gi (arr0 P zs (k + 1)) c = if 1 ≤ P.dep (stC zs k) ∧ c = stC zs k then min (gi (arr0 P zs k) c) (agE P.up (gi zs (k * 5 + 1)) (gi zs (k * 5 + 2))) else gi (arr0 P zs k) c := by
  have e : arr0 P zs (k + 1) = stA P zs (arr0 P zs k) k := by unfold arr0; rw [List.range_succ, List.foldl_append]; rfl
  rw [e]
  unfold stA
  by_cases h : 1 ≤ P.dep (stC zs k)
  · rw [if_pos h, gi_set (by rw [arr0_len]; exact hc)]
    by_cases h2 : c = stC zs k
    · subst h2; simp [h]
    · simp [h2]
  · rw [if_neg h, if_neg (fun x => h x.1)]
theorem str0_get {P : Par} {zs : List Int} {k c : Nat} (hc : stC zs k < P.l.length) :
    gi (str0 P zs (k + 1)) c = if 1 ≤ P.dep (stC zs k) ∧ c = stC zs k then max (gi (str0 P zs k) c) (ofE P.up (gi zs (k * 5 + 3)) (gi zs (k * 5 + 4)) * fourthE P.up (P.dep (stC zs k))) else gi (str0 P zs k) c := by
  have e : str0 P zs (k + 1) = stS P zs (str0 P zs k) k := by unfold str0; rw [List.range_succ, List.foldl_append]; rfl
  rw [e]
  unfold stS
  by_cases h : 1 ≤ P.dep (stC zs k)
  · rw [if_pos h, gi_set (by rw [str0_len]; exact hc)]
    by_cases h2 : c = stC zs k
    · subst h2; simp [h]
    · simp [h2]
  · rw [if_neg h, if_neg (fun x => h x.1)]
theorem Dom.arr0 (D : Dom P N) (Z : DomZ P N zp zn n) (hz : StartOk P zp n) : ∀ k, k ≤ n → ∀ c, c < P.l.length → gi (arr0 P zp k) c ≤ gi (arr0 N zn k) c := by
  intro k
  induction k with
  | zero =>
    intro _ c hc
    unfold Wave.arr0
    simp only [List.range_zero, List.foldl_nil]
    rw [gi_replicate hc, gi_replicate (by rw [← D.len]; exact hc)]
    exact Int.le_refl _
  | succ k ih =>
    intro hk c hc
    have h := ih (by omega) c hc
    have hcell := hz.cell k (by omega)
    have ec : stC zn k = stC zp k := by unfold stC; rw [Z.cell k (by omega)]
    have hs : stC zp k < P.l.length := by unfold stC; omega
    have hd := D.dep _ hs
    have ht := Z.time k (by omega)
    rw [arr0_get hs, arr0_get (by rw [ec, ← D.len]; exact hs), ec]
    split <;> split <;> omega
theorem Dom.str0 (D : Dom P N) (Z : DomZ P N zp zn n) (hz : StartOk P zp n) (hn : StartOk N zn n) : ∀ k, k ≤ n → ∀ c, c < P.l.length → gi (str0 N zn k) c ≤ gi (str0 P zp k) c := by
  intro k
  induction k with
  | zero =>
    intro _ c hc
    unfold Wave.str0
    simp only [List.range_zero, List.foldl_nil]
    rw [gi_replicate hc, gi_replicate (by rw [← D.len]; exact hc)]
    exact Int.le_refl _
  | succ k ih =>
    intro hk c hc
    have h := ih (by omega) c hc
    have hcell := hz.cell k (by omega)
    have ec : stC zn k = stC zp k := by unfold stC; rw [Z.cell k (by omega)]
    have hs : stC zp k < P.l.length := by unfold stC; omega
    have hd := D.dep _ hs
    have hr := Z.rise k (by omega)
    have hr0 : 0 ≤ ofE N.up (gi zn (k * 5 + 3)) (gi zn (k * 5 + 4)) := by have := hn.rise k (by omega); unfold ofE; split <;> omega
    rw [str0_get hs, str0_get (by rw [ec, ← D.len]; exact hs), ec]
    by_cases h1 : 1 ≤ N.dep (stC zp k)
    · have h4 := fourth_le_le (d := N.dep (stC zp k)) (d' := P.dep (stC zp k)) D.up (by omega) hd
      have h5 : 0 ≤ fourthE N.up (N.dep (stC zp k)) := rt_nn (rt_nn (by omega))
      have h6 := Int.mul_le_mul hr h4 h5 (by omega)
      split <;> split <;> omega
    · rw [if_neg (c := 1 ≤ N.dep (stC zp k) ∧ _) (fun x => h1 x.1)]
      split <;> omega
theorem Dom.arr (D : Dom P N) (Z : DomZ P N zp zn n) (hP : POk P) (hz : StartOk P zp n) (fP : SheetFin P zp n) (fN : SheetFin N zn n) {c : Nat} (hc : c < P.l.length) : gi (arrF P zp n) c ≤ gi (arrF N zn n) c := by
  refine Stl.dom (S := PA P) (T := PA N) fP.arr D.len.symm (fun a _ b hb => ?_) (fun a b hb => nb_lt hP hb) (fun b hb => D.arr0 Z hz n (Nat.le_refl _) b hb) (fun a b u ha hb hk hs => ?_) (fN.arr.mid.der c (by rw [show (PA N).n = N.l.length from rfl, ← D.len]; exact hc))
  · show b ∈ nbP P a
    rw [← D.nb]; exact hb
  · have hb' : b < P.l.length := nb_lt hP hb
    obtain ⟨h1, h2, h3⟩ := spA_true hs
    have hc := D.cross hP ha hb' h1
    have ho := D.open ha hb' h1
    obtain ⟨d1, d2⟩ := open_dep ho
    have hx := hP.cross d1 d2
    have hk' : gi (arrF P zp n) a ≤ u := hk
    have hv := fP.arr.mid.val b hb'
    have hva := fP.arr.mid.val a ha
    have hva' : 0 ≤ gi (arrF P zp n) a ∧ gi (arrF P zp n) a ≤ Never := hva
    have hv' : 0 ≤ gi (arrF P zp n) b ∧ gi (arrF P zp n) b ≤ Never := hv
    show (((PA P).sp a b (gi (arrF P zp n) a)).2 = true ∧ ((PA P).sp a b (gi (arrF P zp n) a)).1 ≤ ((PA N).sp a b u).1) ∨ gi (arrF P zp n) b ≤ ((PA N).sp a b u).1
    have e1 : ((PA N).sp a b u).1 = u + N.cross a b := h3
    by_cases hN : gi (arrF P zp n) a = Never
    · right; omega
    · left
      have e2 : (PA P).sp a b (gi (arrF P zp n) a) = (gi (arrF P zp n) a + P.cross a b, true) := by
        show P.spA a b _ = _
        unfold Par.spA
        rw [if_pos ⟨ho, hN⟩]
      rw [e2, e1]
      exact ⟨rfl, by show gi (arrF P zp n) a + P.cross a b ≤ u + N.cross a b; omega⟩
theorem Dom.str (D : Dom P N) (Z : DomZ P N zp zn n) (hP : POk P) (hN : POk N) (hz : StartOk P zp n) (hzn : StartOk N zn n) (fP : SheetFin P zp n) (fN : SheetFin N zn n) {c : Nat} (hc : c < P.l.length) : gi (strF N zn n) c ≤ gi (strF P zp n) c := by
  have := Stl.dom (S := PS P) (T := PS N) (vs0' := Wave.str0 N zn n) fP.str D.len.symm (fun a _ b hb => by show b ∈ nbP P a; rw [← D.nb]; exact hb) (fun a b hb => nb_lt hP hb) (fun b hb => by
      have := D.str0 Z hz hzn n (Nat.le_refl _) b hb
      show -gi (Wave.str0 P zp n) b ≤ -gi (Wave.str0 N zn n) b
      omega) (fun a b u ha hb hk hs => by
      have hb' : b < P.l.length := nb_lt hP hb
      have hs' : (N.open a b && decide (0 < u)) = true := hs
      simp only [Bool.and_eq_true, decide_eq_true_eq] at hs'
      have ho := D.open ha hb' hs'.1
      have hk' : -gi (strF P zp n) a ≤ -u := hk
      have kN := hN.keep
      have hk0 : 0 ≤ ofE N.up N.k0 N.k1 := by unfold ofE; split <;> omega
      left
      refine ⟨?_, ?_⟩
      · show (P.open a b && decide (0 < gi (strF P zp n) a)) = true
        rw [ho]; simp; omega
      · show -(dv P.up (gi (strF P zp n) a * ofE P.up P.k0 P.k1) 1024) ≤ -(dv N.up (u * ofE N.up N.k0 N.k1) 1024)
        have hm : u * ofE N.up N.k0 N.k1 ≤ gi (strF P zp n) a * ofE P.up P.k0 P.k1 := Int.mul_le_mul (by omega) D.keep hk0 (by omega)
        have := dv_le_le (x := u * ofE N.up N.k0 N.k1) (y := 1024) (y' := 1024) D.up (Int.mul_nonneg (by omega) hk0) hm (by decide) (Int.le_refl _)
        omega) (fN.str.mid.der c (by rw [show (PS N).n = N.l.length from rfl, ← D.len]; exact hc))
  have h' : -gi (strF P zp n) c ≤ -gi (strF N zn n) c := this
  omega
theorem Dom.under (D : Dom P N) {c : Nat} (hc : c < P.l.length) (h1 : 1 ≤ N.under c) : P.under c ≤ N.under c := by
  have hl := D.lst c hc
  have hu := D.up
  revert hl h1 hu
  unfold Par.under
  cases P.up <;> cases N.up <;> simp <;> omega
theorem Dom.rise (D : Dom P N) {c : Nat} (hc : c < P.l.length) {sp sn : List Int} (h0 : 1 ≤ P.under c) (h1 : 1 ≤ N.under c) (hs0 : 0 ≤ gi sn c) (hs : gi sn c ≤ gi sp c) : N.rise sn c ≤ P.rise sp c := by
  unfold Par.rise
  have hu := D.under hc h1
  have h2 : 0 ≤ fourthE (!P.up) (P.under c) := rt_nn (rt_nn (by omega))
  refine dv_le_le D.up hs0 hs ?_ (fourth_le_le D.down (by omega) hu)
  have : 1 ≤ fourthE (!P.up) (P.under c) := le_rt (rt_nn (by omega)) (by decide) (le_rt (by omega) (by decide) (by omega))
  omega
end
end Go.Ab.Wave
