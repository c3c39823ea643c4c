/- the reference: fill, prepared, the loops of Spread. -/
import Derived.Test.YtmmpjfknmdlpoaaZ19
set_option linter.unusedSimpArgs false
set_option linter.unusedVariables false
set_option linter.unusedSectionVars false
namespace Go.Ab.Wave
open Go Go.Ab
theorem eqv5 {a b c d e a' b' c' d' e' : Int} : eqvA true [false, false, false, false, false] (.agg ⟨[.int .i64 a, .int .i64 b, .int .i64 c, .int .i64 d, .int .i64 e]⟩) (.agg ⟨[.int .i64 a', .int .i64 b', .int .i64 c', .int .i64 d', .int .i64 e']⟩) =
    some (.bool (!(decide (a = a') && (decide (b = b') && (decide (c = c') && (decide (d = d') && decide (e = e'))))))) := by
  simp [eqvA, eqCells, cellEq, kEq]
  rfl
def spillR (P : Par) (a b : Nat) (v : Nat → List Int) : Nat → List Int := spillD P a b (spillU P a b v)
def flag5 (v v' : Nat → List Int) (b : Nat) : Bool := !(decide (gi (v 4) b = gi (v' 4) b) && (decide (gi (v 5) b = gi (v' 5) b) && (decide (gi (v 6) b = gi (v' 6) b) && (decide (gi (v 7) b = gi (v' 7) b) && decide (gi (v 8) b = gi (v' 8) b)))))
theorem spillU_val {P : Par} (hP : POk (P.at true)) {v : Nat → List Int} (h : VOk2 P v) (hn : ∀ i, i < 9 → (v i).length = P.l.length) {a b : Nat} (ha : a < P.l.length) (hb : b < P.l.length) : VOk2 P (spillU P a b v) := by
  unfold spillU spillL spillA
  split
  · rename_i hc
    have hs := spU_val hP (a := a) (b := b) hb (h.a4 a ha) hc
    have hle := hP.landE
    have hle' : 0 ≤ landE (P.at true) := hle.1
    have n4 := hn 4 (by omega)
    have n7 := hn 7 (by omega)
    refine ⟨fun c hc' => ?_, fun c hc' => h.a6 c hc', fun c hc' => ?_, fun c hc' => h.a8 c hc'⟩
    · show SurfV (gi ((v 4).set b _) c)
      rw [gi_set (by omega)]
      split
      · have := h.a4 b hb
        rcases this with e | e
        · rw [e]; exact .inr (by unfold Never; omega)
        · exact .inr (by omega)
      · exact h.a4 c hc'
    · show 0 ≤ gi ((v 7).set b _) c ∧ gi ((v 7).set b _) c ≤ Never
      rw [gi_set (by omega)]
      have p := h.a7 c hc'
      have p1 := h.a7 a ha
      have p2 := h.a7 b hb
      split <;> omega
  · simp only [upd_same]; exact h
section
variable {g : Nat} {A : Hp} {V : Value → Hp → Prop} {P : Par} {X rd : Nat} {r : Nat → Nat} {v : Nat → List Int} {a b : Nat}
theorem w77 (hu : POk (P.at true)) (hl : POk (P.at false)) (hW : Work A P X rd r v) (hO : VOk2 P v) (ha : a < P.l.length) (hb : b < P.l.length) (hg : ∀ i, i < 9 → g ≤ r i)
    (hQ : ∀ A', Keep (WK r) A A' → Work A' P X rd r (spillR P a b v) → V (.bool (flag5 v (spillR P a b v) b)) A') :
    WF AP KL g 77 [ptrV X, .int .i64 a, .int .i64 b] A V := by
  have hX := hW.hx
  have n4 := hW.nv 4 (by omega)
  have n5 := hW.nv 5 (by omega)
  have n6 := hW.nv 6 (by omega)
  have n7 := hW.nv 7 (by omega)
  have n8 := hW.nv 8 (by omega)
  have g0 := hg 0 (by omega)
  have hr0 := Hp.lt_of_get (hW.hv 0 (by omega))
  have hXn := Hp.lt_of_get hX
  have hr4 := Hp.lt_of_get (hW.hv 4 (by omega))
  have o4 := surfB (hO.a4 a ha)
  have hlo : 0 ≤ P.o0 ∧ P.o0 ≤ P.o1 ∧ P.o1 ≤ 1000 := hu.loss
  obtain ⟨bc, hbc⟩ : ∃ bc : List Value, bc = [.int .i64 (gi (v 4) b), .int .i64 (gi (v 5) b), .int .i64 (gi (v 6) b), .int .i64 (gi (v 7) b), .int .i64 (gi (v 8) b)] := ⟨_, rfl⟩
  obtain ⟨B, hB⟩ : ∃ B, B = A.push (.cells bc false) := ⟨_, rfl⟩
  have kB : Ext' A B := by rw [hB]; exact Ext'.push _ _
  have gB : B.get A.n = some (.cells bc false) := by rw [hB]; exact get_push_new
  have hB' := hB
  rw [hbc] at hB'
  rw [WF_body rfl AP77]
  simp (disch := as_aux_lemma => first | omega | simp only [hDs] <;> omega | simp [isCell]) [hRs, takeMarks, resA, resAll, resOne, Value.cells, h77, ptrV, hX, wkCells, rowS1, rowS2, idxSA_ok, show (b : Int) < P.l.length by omega, show (a : Int) < P.l.length by omega, hW.hv 4, hW.hv 5, hW.hv 6, hW.hv 7, hW.hv 8, ints_get, fillA, setRange, storeB_cells, setRange_all, set_push_eq, wrId (n := gi (v 4) a - P.o0) (by omega) (by omega)]
  rw [← hB']
  refine W_mono (r77a (B7 := A.n) (bc := bc) (A0 := B) hu hO ha hb hg ⟨hW.ext kB, gB, fun i hi => by have := Hp.lt_of_get (hW.hv i hi); omega, Keep.refl _ _, by simp [ptrV], by simp, by simp, by simp [ptrV]⟩ (by simp)) ?_
  rintro _ ⟨T1, D1, A1⟩ ⟨rfl, rfl, h1⟩
  have hO1 := spillU_val hu hO hW.nv ha hb
  have o6 := surfB (hO1.a6 a ha)
  have hX1 : A1.get X = _ := h1.w.hx
  have v6 : A1.get (r 6) = _ := h1.w.hv 6 (by omega)
  have m6 : (spillU P a b v 6).length = P.l.length := h1.w.nv 6 (by omega)
  have u0 : tget T1 0 = ptrV X := h1.t0
  have u1 : tget T1 1 = .int .i64 a := h1.t1
  have u2 : tget T1 2 = .int .i64 b := h1.t2
  have u7 : tget T1 7 = ptrV A.n := h1.t7
  simp (disch := as_aux_lemma => first | omega | simp only [hDs] <;> omega | simp [isCell]) [hRs, takeMarks, resA, resAll, resOne, Value.cells, u0, u1, ptrV, hX1, wkCells, rowS1, idxSA_ok, show (a : Int) < P.l.length by omega, v6, ints_get, wrId (n := gi (spillU P a b v 6) a - P.o1) (by omega) (by omega)]
  refine W_mono (r77b hl hO1 ha hb hg (h1.same (fun j hj => ?_)) ?_) ?_
  · simp only [tget_tset]
    repeat (rw [if_neg (by omega)])
  · simp
  rintro _ ⟨T2, D2, A2⟩ ⟨rfl, rfl, h2⟩
  have hW2 := h2.w
  have hX2 : A2.get X = _ := hW2.hx
  have t0 : tget T2 0 = ptrV X := h2.t0
  have t2 : tget T2 2 = .int .i64 b := h2.t2
  have t7 : tget T2 7 = ptrV A.n := h2.t7
  have b7 : A2.get A.n = some (.cells bc false) := h2.b7
  rw [hbc] at b7
  have hW3 : Work A2 P X rd r (spillR P a b v) := hW2
  have m4 := hW3.nv 4 (by omega)
  have m5 := hW3.nv 5 (by omega)
  have m6 := hW3.nv 6 (by omega)
  have m7 := hW3.nv 7 (by omega)
  have m8 := hW3.nv 8 (by omega)
  simp (disch := as_aux_lemma => first | omega | simp only [hDs] <;> omega | simp [isCell]) [hRs, takeMarks, resA, resAll, resOne, Value.cells, t0, t2, t7, b7, ptrV, hX2, wkCells, rowS1, rowS2, idxSA_ok, show (b : Int) < P.l.length by omega, hW3.hv 4, hW3.hv 5, hW3.hv 6, hW3.hv 7, hW3.hv 8, ints_get, fillA, setRange, eqv5]
  have := hQ A2 ((kB.keep _).trans h2.k) hW3
  unfold flag5 at this
  simp at this
  exact this
end
structure EndO (P : Par) (zs : List Int) (n : Nat) (vu vf : List Int) : Prop where
  nu : vu.length = P.l.length
  nf : vf.length = P.l.length
  u : ∀ c, c < P.l.length → SurfV (gi vu c)
  f : ∀ c, c < P.l.length → 0 ≤ gi vf c ∧ gi vf c ≤ Never
  du : ∀ c, c < P.l.length → (PU P).Der (srfK P (arrF P zs n) (strF P zs n) P.l.length) c (gi vu c)
  df : ∀ c, c < P.l.length → (PL P (fSu P zs n)).Der (arrF P zs n) c (gi vf c)
  gf : GA 2280000000 1000000000 vf
  iu : ∀ c, c < P.l.length → gi (srfK P (arrF P zs n) (strF P zs n) P.l.length) c ≤ gi vu c
  jf : ∀ c, c < P.l.length → gi vf c ≤ gi (arrF P zs n) c
structure EndL (P : Par) (zs : List Int) (n : Nat) (la : List Int) : Prop where
  nl : la.length = P.l.length
  l : ∀ c, c < P.l.length → SurfV (gi la c)
  d : ∀ c, c < P.l.length → gi la c = -Never ∨ ∃ a v, a < P.l.length ∧ (PU P).Der (srfK P (arrF P zs n) (strF P zs n) P.l.length) a v ∧ c ∈ nbP P a ∧ (P.spU a c v).2 = true ∧ gi la c = (P.spU a c v).1
def potO (vu vf : List Int) : Nat := (vu.map rankU).sum + (vf.map (rankA 43000000000)).sum
def potL' (la : List Int) : Nat := (la.map rankU).sum
theorem rankU_lt {v w : Int} (hv : SurfV v) (hw : -1200000 ≤ w ∧ w ≤ 200020000) (h : v < w) : rankU w < rankU v := by
  unfold rankU
  rw [if_neg (by unfold Never; omega)]
  rcases hv with e | e
  · rw [if_pos e]; omega
  · rw [if_neg (by unfold Never; omega)]; omega
theorem EndO.spill {P : Par} {zs : List Int} {n : Nat} {vu vf : List Int} (hP : POk P) (hF : SheetFin P zs n) (h : EndO P zs n vu vf) {a b : Nat} (ha : a < P.l.length) (hb : b ∈ nbP P a) :
    EndO P zs n (spillA P vu vf a b).1 (spillA P vu vf a b).2 ∧ potO (spillA P vu vf a b).1 (spillA P vu vf a b).2 ≤ potO vu vf ∧
    (gi (spillA P vu vf a b).1 b = gi vu b → gi (spillA P vu vf a b).2 b = gi vf b → spillA P vu vf a b = (vu, vf)) ∧
    (¬ (gi (spillA P vu vf a b).1 b = gi vu b ∧ gi (spillA P vu vf a b).2 b = gi vf b) → potO (spillA P vu vf a b).1 (spillA P vu vf a b).2 < potO vu vf) := by
  have hbn := nb_lt hP hb
  have hsm := hP.small
  by_cases hc : (P.spU a b (gi vu a)).2 = true
  · have oa := h.u a ha
    have ob := h.u b hbn
    have fa := h.f a ha
    have fb := h.f b hbn
    have hsv := spU_val hP (a := a) (b := b) hbn oa hc
    have hle := hP.landE
    obtain ⟨w, hw⟩ : ∃ w, w = (P.spU a b (gi vu a)).1 := ⟨_, rfl⟩
    obtain ⟨u, hu⟩ : ∃ u, u = gi vf a + landE P := ⟨_, rfl⟩
    have hle' : 0 ≤ landE P ∧ landE P ≤ 1000000000 := hle
    rw [← hw] at hsv
    have hp : spillA P vu vf a b = (vu.set b (max (gi vu b) w), vf.set b (min (gi vf b) u)) := by unfold spillA; rw [if_pos hc, hw, hu]
    rw [hp]
    dsimp only
    have bu : b < vu.length := by rw [h.nu]; exact hbn
    have bf : b < vf.length := by rw [h.nf]; exact hbn
    have hA : (∀ c, c < P.l.length → (0 ≤ gi (vf.set b (min (gi vf b) u)) c ∧ gi (vf.set b (min (gi vf b) u)) c ≤ Never) ∧ (PL P (fSu P zs n)).Der (arrF P zs n) c (gi (vf.set b (min (gi vf b) u)) c) ∧ gi (vf.set b (min (gi vf b) u)) c ≤ gi vf c) ∧ GA 2280000000 1000000000 (vf.set b (min (gi vf b) u)) ∧
        ((vf.set b (min (gi vf b) u)).map (rankA 43000000000)).sum ≤ (vf.map (rankA 43000000000)).sum ∧ (u < gi vf b → ((vf.set b (min (gi vf b) u)).map (rankA 43000000000)).sum < (vf.map (rankA 43000000000)).sum) := by
      by_cases hlt : u < gi vf b
      · rw [show min (gi vf b) u = u by omega]
        obtain ⟨g1, g2⟩ := GA_step (a := a) (b := b) (u := u) (RB := 43000000000) (by omega) h.gf (by rw [h.nf]; exact ha) bf (by omega) (by omega) (by omega) hlt fb.2 (by rw [h.nf]; omega)
        have hsum := sum_set (f := rankA 43000000000) (l := vf) (i := b) (v := u) bf g2
        refine ⟨fun c hc' => ?_, g1, Nat.le_of_lt hsum, fun _ => hsum⟩
        rw [gi_set bf]
        by_cases e : c = b
        · subst e
          rw [if_pos rfl]
          refine ⟨by omega, ?_, by omega⟩
          have hk := hF.srf.least' (PU_mon hP) (h.du a ha)
          have hs2 : (P.spU a c (gi (fSu P zs n) a)).2 = true := by
            rcases (PU_mon hP).mono a c (gi vu a) (gi (fSu P zs n) a) ha hb (hF.srf.mid.val a ha) hk hc with ⟨q, _⟩ | ⟨q, _⟩
            · exact q
            · cases q
          have hst := Stl.Der.step (S := PL P (fSu P zs n)) (vs0 := arrF P zs n) (a := a) (b := c) (v := gi vf a) ha (h.df a ha) hb hs2
          have e3 : ((PL P (fSu P zs n)).sp a c (gi vf a)).1 = u := by rw [hu]; rfl
          rw [e3] at hst
          exact hst
        · rw [if_neg e]; exact ⟨h.f c hc', h.df c hc', Int.le_refl _⟩
      · rw [show min (gi vf b) u = gi vf b by omega, set_self bf rfl]
        exact ⟨fun c hc' => ⟨h.f c hc', h.df c hc', Int.le_refl _⟩, h.gf, Nat.le_refl _, fun e => absurd e hlt⟩
    have hS : (∀ c, c < P.l.length → SurfV (gi (vu.set b (max (gi vu b) w)) c) ∧ (PU P).Der (srfK P (arrF P zs n) (strF P zs n) P.l.length) c (gi (vu.set b (max (gi vu b) w)) c) ∧ gi vu c ≤ gi (vu.set b (max (gi vu b) w)) c) ∧
        ((vu.set b (max (gi vu b) w)).map rankU).sum ≤ (vu.map rankU).sum ∧ (gi vu b < w → ((vu.set b (max (gi vu b) w)).map rankU).sum < (vu.map rankU).sum) := by
      by_cases hlt : gi vu b < w
      · rw [show max (gi vu b) w = w by omega]
        have hsum := sum_set (f := rankU) (l := vu) (i := b) (v := w) bu (rankU_lt ob hsv hlt)
        refine ⟨fun c hc' => ?_, Nat.le_of_lt hsum, fun _ => hsum⟩
        rw [gi_set bu]
        by_cases e : c = b
        · subst e
          rw [if_pos rfl]
          refine ⟨.inr hsv, ?_, by omega⟩
          have hst := Stl.Der.step (S := PU P) (vs0 := srfK P (arrF P zs n) (strF P zs n) P.l.length) (a := a) (b := c) (v := gi vu a) ha (h.du a ha) hb hc
          have e3 : ((PU P).sp a c (gi vu a)).1 = w := hw.symm
          rw [e3] at hst
          exact hst
        · rw [if_neg e]; exact ⟨h.u c hc', h.du c hc', Int.le_refl _⟩
      · rw [show max (gi vu b) w = gi vu b by omega, set_self bu rfl]
        exact ⟨fun c hc' => ⟨h.u c hc', h.du c hc', Int.le_refl _⟩, Nat.le_refl _, fun e => absurd e hlt⟩
    obtain ⟨hA1, hA2, hA3, hA4⟩ := hA
    obtain ⟨hS1, hS2, hS3⟩ := hS
    refine ⟨⟨by simp [h.nu], by simp [h.nf], fun c hc' => (hS1 c hc').1, fun c hc' => (hA1 c hc').1, fun c hc' => (hS1 c hc').2.1, fun c hc' => (hA1 c hc').2.1, hA2, fun c hc' => Int.le_trans (h.iu c hc') (hS1 c hc').2.2, fun c hc' => Int.le_trans (hA1 c hc').2.2 (h.jf c hc')⟩, ?_, fun e1 e2 => ?_, fun hne => ?_⟩
    · unfold potO; exact Nat.add_le_add hS2 hA3
    · rw [gi_set bu, if_pos rfl] at e1
      rw [gi_set bf, if_pos rfl] at e2
      rw [set_self bu e1, set_self bf e2]
    · rw [gi_set bu, if_pos rfl, gi_set bf, if_pos rfl] at hne
      unfold potO
      by_cases c1 : u < gi vf b
      · have := hA4 c1; omega
      · by_cases c2 : gi vu b < w
        · have := hS3 c2; omega
        · exact absurd ⟨by omega, by omega⟩ hne
  · have hp : spillA P vu vf a b = (vu, vf) := by unfold spillA; rw [if_neg hc]
    rw [hp]
    exact ⟨h, Nat.le_refl _, fun _ _ => rfl, fun hne => absurd ⟨rfl, rfl⟩ hne⟩
theorem EndL.spill {P : Par} {zs : List Int} {n : Nat} {vu vf la : List Int} (hP : POk P) (h : EndO P zs n vu vf) (hL : EndL P zs n la) {a b : Nat} (ha : a < P.l.length) (hb : b ∈ nbP P a) :
    EndL P zs n (spillL P vu la a b) ∧ potL' (spillL P vu la a b) ≤ potL' la ∧ (gi (spillL P vu la a b) b = gi la b → spillL P vu la a b = la) ∧ (¬ gi (spillL P vu la a b) b = gi la b → potL' (spillL P vu la a b) < potL' la) := by
  have hbn := nb_lt hP hb
  unfold spillL
  split
  · rename_i hc
    have hsv := spU_val hP (a := a) (b := b) hbn (h.u a ha) hc
    have ob := hL.l b hbn
    obtain ⟨w, hw⟩ : ∃ w, w = (P.spU a b (gi vu a)).1 := ⟨_, rfl⟩
    rw [← hw] at hsv ⊢
    have bl : b < la.length := by rw [hL.nl]; exact hbn
    by_cases hlt : gi la b < w
    · rw [show max (gi la b) w = w by omega]
      have hsum := sum_set (f := rankU) (l := la) (i := b) (v := w) bl (rankU_lt ob hsv hlt)
      refine ⟨⟨by simp [hL.nl], fun c hc' => ?_, fun c hc' => ?_⟩, Nat.le_of_lt hsum, fun e => ?_, fun _ => hsum⟩
      · rw [gi_set bl]; split
        · exact .inr hsv
        · exact hL.l c hc'
      · rw [gi_set bl]
        by_cases e : c = b
        · rw [if_pos e]
          refine .inr ⟨a, gi vu a, ha, h.du a ha, by rw [e]; exact hb, by rw [e]; exact hc, by rw [e]; exact hw⟩
        · rw [if_neg e]; exact hL.d c hc'
      · rw [gi_set bl, if_pos rfl] at e; omega
    · rw [show max (gi la b) w = gi la b by omega, set_self bl rfl]
      exact ⟨hL, Nat.le_refl _, fun _ => rfl, fun e => absurd rfl e⟩
  · exact ⟨hL, Nat.le_refl _, fun _ => rfl, fun e => absurd rfl e⟩
end Go.Ab.Wave
namespace Go.Ab.Wave
open Go Go.Ab
theorem Stl.least_of {S : Stl} (M : StlMon S) {vs0 vs : List Int} (hv : ∀ b, b < S.n → S.Val b (gi vs b)) (hi : ∀ b, b < S.n → S.key (gi vs b) ≤ S.key (gi vs0 b))
    (hc : ∀ c d, c < S.n → d ∈ S.nb c → (S.sp c d (gi vs c)).2 = true → ¬ S.key (S.sp c d (gi vs c)).1 < S.key (gi vs d)) {b : Nat} {v : Int} (hd : S.Der vs0 b v) : S.key (gi vs b) ≤ S.key v := by
  induction hd with
  | init hb => exact hi _ hb
  | @step a b v ha _ hb hs ih =>
    rcases M.mono a b v _ ha hb (hv _ ha) ih hs with ⟨k1, k2⟩ | ⟨_, k⟩
    · have := hc _ _ ha hb k1
      omega
    · exact k _ (hv _ (M.lt _ _ hb))
theorem EndO.fin {P : Par} {zs : List Int} {n : Nat} {vu vf : List Int} (hP : POk P) (hF : SheetFin P zs n) (h : EndO P zs n vu vf) (hq : ∀ a b, a < P.l.length → b ∈ nbP P a → spillA P vu vf a b = (vu, vf)) :
    vu = fSu P zs n ∧ vf = fAr P zs n := by
  have key : ∀ a b, a < P.l.length → b ∈ nbP P a → (P.spU a b (gi vu a)).2 = true → (P.spU a b (gi vu a)).1 ≤ gi vu b ∧ gi vf b ≤ gi vf a + landE P := by
    intro a b ha hb hs
    have hbn := nb_lt hP hb
    have e := hq a b ha hb
    unfold spillA at e
    rw [if_pos hs] at e
    have e1 : gi (vu.set b (max (gi vu b) (P.spU a b (gi vu a)).1)) b = gi vu b := by rw [(Prod.mk.inj e).1]
    have e2 : gi (vf.set b (min (gi vf b) (gi vf a + landE P))) b = gi vf b := by rw [(Prod.mk.inj e).2]
    rw [gi_set (by rw [h.nu]; exact hbn), if_pos rfl] at e1
    rw [gi_set (by rw [h.nf]; exact hbn), if_pos rfl] at e2
    omega
  have M := PU_mon hP
  have eu : vu = fSu P zs n := gi_ext h.nu hF.srf.mid.nv fun b hb => by
    have k1 : (PU P).key (gi (fSu P zs n) b) ≤ (PU P).key (gi vu b) := hF.srf.least' M (h.du b hb)
    have k2 : (PU P).key (gi vu b) ≤ (PU P).key (gi (fSu P zs n) b) := Stl.least_of M (vs0 := srfK P (arrF P zs n) (strF P zs n) P.l.length) (fun b hb => h.u b hb) (fun b hb => by
      show -(gi vu b) ≤ -_
      have := h.iu b hb
      omega) (fun c d hc hd hs => by
      have := (key c d hc hd hs).1
      show ¬ -(P.spU c d (gi vu c)).1 < -(gi vu d)
      omega) (hF.srf.mid.der b hb)
    exact Stl.key_inj (S := PU P) (by omega)
  refine ⟨eu, ?_⟩
  have hFL : (PL P (fSu P zs n)).FinV (arrF P zs n) vf := by
    refine ⟨⟨h.nf, hF.arr.mid.nv, h.f, h.df, fun b hb => .inl rfl, fun c hc => absurd hc List.not_mem_nil, h.gf, fun b hb => h.jf b hb, fun _ => Int.le_refl _⟩, fun c d hc hd hs => ⟨?_, fun e => by cases e⟩⟩
    have hs' : (P.spU c d (gi vu c)).2 = true := by rw [eu]; exact hs
    have := (key c d hc hd hs').2
    show ¬ gi vf c + landE P < gi vf d
    omega
  exact (hFL.out (PL_mon hP)).1
theorem EndL.fin {P : Par} {zs : List Int} {n : Nat} {vu vf la : List Int} (hP : POk P) (h : EndO P zs n vu vf) (hL : EndL P zs n la) (hq : ∀ a b, a < P.l.length → b ∈ nbP P a → spillA P vu vf a b = (vu, vf)) (hl : ∀ a b, a < P.l.length → b ∈ nbP P a → spillL P vu la a b = la) :
    la = fLa P zs n := by
  have hFin : (PU P).Fin (srfK P (arrF P zs n) (strF P zs n) P.l.length) (List.replicate P.l.length (-Never)) vu la := by
    refine ⟨⟨h.nu, hL.nl, h.u, h.du, fun b hb => ?_, fun c hc => absurd hc List.not_mem_nil, trivial, fun b hb => ?_, fun b => ?_⟩, fun a b ha hb hs => ⟨?_, fun _ => ?_⟩⟩
    · rcases hL.d b hb with e | e
      · exact .inl (e.trans (gi_replicate (show b < P.l.length from hb)).symm)
      · exact .inr e
    · show -(gi vu b) ≤ -_
      have := h.iu b hb
      omega
    · by_cases hb : b < P.l.length
      · rw [gi_replicate hb]
        have := hL.l b hb
        rcases this with e | e
        · omega
        · unfold Never; omega
      · have e1 : gi (List.replicate P.l.length (-Never)) b = 0 := by unfold gi; simp [List.getD_eq_getElem?_getD, hb]
        have e2 : gi la b = 0 := by unfold gi; rw [List.getD_eq_getElem?_getD, List.getElem?_eq_none (by rw [hL.nl]; omega)]; rfl
        rw [e1, e2]; exact Int.le_refl _
    · have e := hq a b ha hb
      have hs' : (P.spU a b (gi vu a)).2 = true := hs
      unfold spillA at e
      rw [if_pos hs'] at e
      have e1 : gi (vu.set b (max (gi vu b) (P.spU a b (gi vu a)).1)) b = gi vu b := by rw [(Prod.mk.inj e).1]
      rw [gi_set (by rw [h.nu]; exact nb_lt hP hb), if_pos rfl] at e1
      show ¬ -(P.spU a b (gi vu a)).1 < -(gi vu b)
      omega
    · have e := hl a b ha hb
      have hs' : (P.spU a b (gi vu a)).2 = true := hs
      unfold spillL at e
      rw [if_pos hs'] at e
      have e1 : gi (la.set b (max (gi la b) (P.spU a b (gi vu a)).1)) b = gi la b := by rw [e]
      rw [gi_set (by rw [hL.nl]; exact nb_lt hP hb), if_pos rfl] at e1
      show (P.spU a b (gi vu a)).1 ≤ gi la b
      omega
  exact (hFin.out (PU_mon hP)).2 rfl
theorem EndO.start {P : Par} {zs : List Int} {n : Nat} (hP : POk P) (hz : StartOk P zs n) (hF : SheetFin P zs n) : EndO P zs n (srfK P (arrF P zs n) (strF P zs n) P.l.length) (arrF P zs n) := by
  have hO := sailOk hP hz hF.arr hF.str
  exact ⟨srfK_len, hF.arr.mid.nv, fun c hc => srf_ok hP hO hc, fun c hc => (hO.ar c hc).1, fun c hc => .init hc, fun c hc => .init hc, GA1 hO hF.arr.mid.nv, fun _ _ => Int.le_refl _, fun _ _ => Int.le_refl _⟩
theorem EndL.start {P : Par} {zs : List Int} {n : Nat} : EndL P zs n (List.replicate P.l.length (-Never)) :=
  ⟨by simp, fun c hc => .inl (gi_replicate hc), fun c hc => .inl (gi_replicate hc)⟩
def RO (P : Par) (zs : List Int) (n : Nat) (v4 : Nat → List Int) : Rd where
  I v := EndO (P.at true) zs n (v 4) (v 7) ∧ EndL (P.at true) zs n (v 5) ∧ EndO (P.at false) zs n (v 6) (v 8) ∧ ∀ j, j < 4 → v j = v4 j
  pot v := potO (v 4) (v 7) + potL' (v 5) + potO (v 6) (v 8)
  step := spillR P
  fl a b v := flag5 v (spillR P a b v) b
theorem spillR_get {P : Par} {a b : Nat} {v : Nat → List Int} : spillR P a b v 4 = (spillA (P.at true) (v 4) (v 7) a b).1 ∧ spillR P a b v 7 = (spillA (P.at true) (v 4) (v 7) a b).2 ∧ spillR P a b v 5 = spillL (P.at true) (v 4) (v 5) a b ∧
    spillR P a b v 6 = (spillA (P.at false) (v 6) (v 8) a b).1 ∧ spillR P a b v 8 = (spillA (P.at false) (v 6) (v 8) a b).2 ∧ ∀ j, (j < 4 ∨ 9 ≤ j) → spillR P a b v j = v j := by
  refine ⟨rfl, rfl, rfl, rfl, rfl, fun j hj => ?_⟩
  unfold spillR spillD spillU upd
  rw [if_neg (by omega), if_neg (by omega), if_neg (by omega), if_neg (by omega), if_neg (by omega)]
theorem RO_ok {P : Par} {zs : List Int} {n : Nat} {v4 : Nat → List Int} (hu : POk (P.at true)) (hl : POk (P.at false)) (hFu : SheetFin (P.at true) zs n) (hFl : SheetFin (P.at false) zs n) : RdOk (RO P zs n v4) P := by
  refine ⟨fun v a b hI ha hb => ?_, fun v a b hI ha hb hf => ?_, fun v a b hI ha hb hf => ?_⟩
  · obtain ⟨e4, e7, e5, e6, e8, ej⟩ := spillR_get (P := P) (a := a) (b := b) (v := v)
    show EndO _ _ _ (spillR P a b v 4) (spillR P a b v 7) ∧ EndL _ _ _ (spillR P a b v 5) ∧ EndO _ _ _ (spillR P a b v 6) (spillR P a b v 8) ∧ _
    rw [e4, e7, e5, e6, e8]
    exact ⟨(hI.1.spill hu hFu ha hb).1, (hI.2.1.spill hu hI.1 ha hb).1, (hI.2.2.1.spill hl hFl ha hb).1, fun j hj => (ej j (.inl hj)).trans (hI.2.2.2 j hj)⟩
  · obtain ⟨e4, e7, e5, e6, e8, ej⟩ := spillR_get (P := P) (a := a) (b := b) (v := v)
    have hf' : flag5 v (spillR P a b v) b = false := hf
    unfold flag5 at hf'
    simp only [Bool.not_eq_false', Bool.and_eq_true, decide_eq_true_eq] at hf'
    obtain ⟨f4, f5, f6, f7, f8⟩ := hf'
    rw [e4] at f4
    rw [e5] at f5
    rw [e6] at f6
    rw [e7] at f7
    rw [e8] at f8
    have p := (hI.1.spill hu hFu ha hb).2.2.1 f4.symm f7.symm
    have o := (hI.2.1.spill hu hI.1 ha hb).2.2.1 f5.symm
    have q := (hI.2.2.1.spill hl hFl ha hb).2.2.1 f6.symm f8.symm
    show spillR P a b v = v
    funext j
    by_cases j4 : j = 4
    · rw [j4, e4, p]
    · by_cases j5 : j = 5
      · rw [j5, e5, o]
      · by_cases j6 : j = 6
        · rw [j6, e6, q]
        · by_cases j7 : j = 7
          · rw [j7, e7, p]
          · by_cases j8 : j = 8
            · rw [j8, e8, q]
            · exact ej j (by omega)
  · obtain ⟨e4, e7, e5, e6, e8, ej⟩ := spillR_get (P := P) (a := a) (b := b) (v := v)
    have hf' : flag5 v (spillR P a b v) b = true := hf
    have p := (hI.1.spill hu hFu ha hb).2
    have o := (hI.2.1.spill hu hI.1 ha hb).2
    have q := (hI.2.2.1.spill hl hFl ha hb).2
    show potO (spillR P a b v 4) (spillR P a b v 7) + potL' (spillR P a b v 5) + potO (spillR P a b v 6) (spillR P a b v 8) < potO (v 4) (v 7) + potL' (v 5) + potO (v 6) (v 8)
    rw [e4, e7, e5, e6, e8]
    by_cases c1 : gi (spillA (P.at true) (v 4) (v 7) a b).1 b = gi (v 4) b ∧ gi (spillA (P.at true) (v 4) (v 7) a b).2 b = gi (v 7) b
    · by_cases c2 : gi (spillA (P.at false) (v 6) (v 8) a b).1 b = gi (v 6) b ∧ gi (spillA (P.at false) (v 6) (v 8) a b).2 b = gi (v 8) b
      · by_cases c3 : gi (spillL (P.at true) (v 4) (v 5) a b) b = gi (v 5) b
        · unfold flag5 at hf'
          rw [e4, e5, e6, e7, e8, c1.1, c1.2, c2.1, c2.2, c3] at hf'
          simp at hf'
        · have := o.2.2 c3
          have := p.1
          have := q.1
          omega
      · have := q.2.2 c2
        have := p.1
        have := o.1
        omega
    · have := p.2.2 c1
      have := q.1
      have := o.1
      omega
def cpy (l : List Int) (n i : Nat) : List Int := (List.range n).map fun c => if c < i then gi l c else Never
theorem cpy_len {l : List Int} {n i : Nat} : (cpy l n i).length = n := by simp [cpy]
theorem cpy_get {l : List Int} {n i c : Nat} (hc : c < n) : gi (cpy l n i) c = if c < i then gi l c else Never := by
  rw [gi_eq (by rw [cpy_len]; exact hc)]; simp [cpy]
theorem cpy_zero {l : List Int} {n : Nat} : cpy l n 0 = List.replicate n Never := gi_ext cpy_len (by simp) fun c hc => by rw [cpy_get hc, gi_replicate hc, if_neg (by omega)]
theorem cpy_all {l : List Int} {n : Nat} (h : l.length = n) : cpy l n n = l := gi_ext cpy_len h fun c hc => by rw [cpy_get hc, if_pos hc]
theorem cpy_set {l : List Int} {n i : Nat} (hi : i < n) : (cpy l n i).set i (gi l i) = cpy l n (i + 1) := gi_ext (n := n) (by rw [List.length_set, cpy_len]) cpy_len fun c hc => by
  rw [gi_set (by rw [cpy_len]; exact hi), cpy_get hc, cpy_get hc]
  by_cases e : c = i
  · subst e; rw [if_pos rfl, if_pos (by omega)]
  · rw [if_neg e]
    by_cases h : c < i
    · rw [if_pos h, if_pos (by omega)]
    · rw [if_neg h, if_neg (by omega)]
theorem cpy_skip {l : List Int} {n i : Nat} (h : gi l i = Never) : cpy l n i = cpy l n (i + 1) := gi_ext (n := n) cpy_len cpy_len fun c hc => by
  rw [cpy_get hc, cpy_get hc]
  by_cases e : c = i
  · subst e; rw [if_neg (by omega), if_pos (by omega), h]
  · by_cases h : c < i
    · rw [if_pos h, if_pos (by omega)]
    · rw [if_neg h, if_neg (by omega)]
end Go.Ab.Wave
namespace Go.Ab.Wave
open Go Go.Ab
def p53c : ACode := (.seq
 (.ops [
oM 52 0,
oP 53 (.nilCheck (.t 52)),
oF 54 53 14,
oL 55 54,
oM 56 2,
oI 57 55 56 1,
oL 58 57,
oC 59 .lss 58 1099511627776])
 (.cond (.t 59)
 (.ops [
oM 60 0,
oP 61 (.nilCheck (.t 60)),
oF 62 61 19,
oL 63 62,
oM 64 2,
oM 65 0,
oP 66 (.nilCheck (.t 65)),
oF 67 66 21,
oL 68 67,
oM 69 2,
oM 70 0,
oP 71 (.nilCheck (.t 70)),
oF 72 71 4,
oF 73 72 0,
oL 74 73,
oM 75 0,
oM 76 2,
oA 77 76 [.t 75, .t 76] true,
oB 78 .add 74 77,
oM 79 0,
oP 80 (.nilCheck (.t 79)),
oF 81 80 14,
oL 82 81,
oM 83 2,
oI 84 82 83 1,
oL 85 84,
oI 86 63 64 1,
oT 86 78 1,
oI 87 68 69 1,
oT 87 85 1])
 .skip))
def body53t : ACode := .seq (.seq
 (.ops [
oM 7 2,
oM 8 0,
oP 9 (.nilCheck (.t 8)),
oF 10 9 12,
oL 11 10,
oP 12 (.len (.t 11)),
oB 13 .lss 7 12])
 (.cond (.t 13)
 .skip
 (.exit 0))) (.seq (.block 1 (.seq (.ops [
oM 16 0,
oP 17 (.nilCheck (.t 16)),
oF 18 17 20,
oL 19 18,
oM 20 2,
oM 21 0,
oP 22 (.nilCheck (.t 21)),
oF 23 22 13,
oL 24 23,
oM 25 2,
oI 26 24 25 1,
oL 27 26,
oI 28 19 20 1,
oT 28 27 1]) (.seq (.seq
 (.ops [
oM 29 0,
oP 30 (.nilCheck (.t 29)),
oF 31 30 13,
oL 32 31,
oM 33 2,
oI 34 32 33 1,
oL 35 34,
oC 36 .lss 35 1099511627776])
 (.cond (.t 36)
 (.ops [
oM 37 0,
oP 38 (.nilCheck (.t 37)),
oF 39 38 17,
oL 40 39,
oM 41 2,
oM 42 0,
oP 43 (.nilCheck (.t 42)),
oF 44 43 4,
oF 45 44 1,
oL 46 45,
oM 47 0,
oM 48 2,
oA 49 75 [.t 47, .t 48] true,
oB 50 .add 46 49,
oI 51 40 41 1,
oT 51 50 1])
 .skip)) p53c))) (.ops [
oM 14 2,
oC 15 .add 14 1,
oM 2 15]))
structure Ov (P : Par) (v0 v : Nat → List Int) (i : Nat) : Prop where
  e4 : v 4 = srfK (P.at true) (v0 0) (v0 3) i
  e5 : v 5 = v0 5
  e6 : v 6 = srfK (P.at false) (v0 1) (v0 2) i
  e7 : v 7 = cpy (v0 0) P.l.length i
  e8 : v 8 = cpy (v0 1) P.l.length i
  e : ∀ j, j < 4 → v j = v0 j
section
variable {g : Nat} {A : Hp} {V : Value → Hp → Prop} {P : Par} {X rd : Nat} {r : Nat → Nat} {v0 : Nat → List Int}
theorem loop53s {A0 : Hp} {D : List Nat} {rdd : Option Nat} {Q : Ex → St → Prop} (hu : POk (P.at true)) (hl : POk (P.at false)) (hOu : SailOk (P.at true) (v0 0) (v0 3)) (hOl : SailOk (P.at false) (v0 1) (v0 2)) (hg : ∀ i, i < 9 → g ≤ r i)
    (hQ : ∀ T' A' v, Keep (WK r) A0 A' → Work A' P X rd r v → Ov P v0 v P.l.length → tget T' 0 = ptrV X → Q (.exit 0) ⟨T', D, A'⟩) :
    ∀ (k i : Nat) (T : List Value) (A : Hp) (v : Nat → List Int), i + k = P.l.length → Keep (WK r) A0 A → Work A P X rd r v → Ov P v0 v i → tget T 0 = ptrV X → tget T 2 = .int .i64 i → W AP KL g rdd (.loop body53t) ⟨T, D, A⟩ Q := by
  have hsm : P.l.length ≤ 40 := hu.small
  intro k
  induction k with
  | zero =>
    intro i T A v hi hk hW hO t0 t2
    have hX := hW.hx
    have e : i = P.l.length := by omega
    rw [W_loop]
    simp (disch := as_aux_lemma => first | omega | simp only [hDs] <;> omega | simp [isCell]) [hRs, takeMarks, resA, resAll, resOne, Value.cells, body53t, t0, t2, ptrV, hX, wkCells, rowS2, show ¬ (i : Int) < (P.l.length : Int) by omega]
    rw [e] at hO
    exact hQ _ A v hk hW hO (by simp [t0, ptrV])
  | succ k ih =>
    intro i T A v hi hk hW hO t0 t2
    have hil : i < P.l.length := by omega
    have hX := hW.hx
    have a0 := hW.hv 0 (by omega)
    have a7 := hW.hv 7 (by omega)
    have n0 : (v 0).length = P.l.length := hW.nv 0 (by omega)
    have n7 : (v 7).length = P.l.length := hW.nv 7 (by omega)
    have v00 := hO.e 0 (by omega)
    have v01 := hO.e 1 (by omega)
    have v02 := hO.e 2 (by omega)
    have v03 := hO.e 3 (by omega)
    have ol := hOu.ar i hil
    have oh := hOl.ar i hil
    have hsea : -20000 ≤ P.slo ∧ P.slo ≤ P.shi ∧ P.shi ≤ 20000 := hu.sea
    have hw1 := hW.put (i := 7) (by omega) (l := (v 7).set i (gi (v 0) i)) (by rw [List.length_set]; exact n7)
    have kk1 := Keep.put' (b := some (.cells (ints ((v 7).set i (gi (v 0) i))) false)) hk (Hp.lt_of_get a7) (show WK r (r 7) from ⟨7, by omega, rfl⟩)
    have c7 : (v 7).set i (gi (v 0) i) = cpy (v0 0) P.l.length (i + 1) := by rw [hO.e7, v00, cpy_set hil]
    obtain ⟨A1, hA1⟩ : ∃ A1, A1 = A.set (r 7) (some (.cells (ints ((v 7).set i (gi (v 0) i))) false)) := ⟨_, rfl⟩
    obtain ⟨v1, hv1⟩ : ∃ v1, v1 = upd v 7 ((v 7).set i (gi (v 0) i)) := ⟨_, rfl⟩
    have hA1' := hA1
    rw [← hA1] at hw1 kk1
    rw [← hv1] at hw1
    have f0 : v1 0 = v0 0 := by rw [hv1]; exact v00
    have f1 : v1 1 = v0 1 := by rw [hv1]; exact v01
    have f2 : v1 2 = v0 2 := by rw [hv1]; exact v02
    have f3 : v1 3 = v0 3 := by rw [hv1]; exact v03
    have f4 : v1 4 = srfK (P.at true) (v0 0) (v0 3) i := by rw [hv1]; exact hO.e4
    have f5 : v1 5 = v0 5 := by rw [hv1]; exact hO.e5
    have f6 : v1 6 = srfK (P.at false) (v0 1) (v0 2) i := by rw [hv1]; exact hO.e6
    have f7 : v1 7 = cpy (v0 0) P.l.length (i + 1) := by rw [hv1]; exact c7
    have f8 : v1 8 = cpy (v0 1) P.l.length i := by rw [hv1]; exact hO.e8
    have bX := hw1.hx
    have b0 := hw1.hv 0 (by omega)
    have m0 : i < (v1 0).length := by rw [hw1.nv 0 (by omega)]; exact hil
    rw [f0] at b0 m0
    have part3 : ∀ (T' : List Value) (A2 : Hp) (v2 : Nat → List Int), Keep (WK r) A0 A2 → Work A2 P X rd r v2 → v2 4 = srfK (P.at true) (v0 0) (v0 3) (i + 1) → v2 5 = v0 5 → v2 6 = srfK (P.at false) (v0 1) (v0 2) i → v2 7 = cpy (v0 0) P.l.length (i + 1) → v2 8 = cpy (v0 1) P.l.length i → (∀ j, j < 4 → v2 j = v0 j) → tget T' 0 = ptrV X → tget T' 2 = .int .i64 i →
        W AP KL g rdd p53c ⟨T', D, A2⟩ (fun ex st => ex = .normal ∧ st.D = D ∧ tget st.T 0 = ptrV X ∧ tget st.T 2 = .int .i64 i ∧ Keep (WK r) A0 st.A ∧ ∃ v3, Work st.A P X rd r v3 ∧ Ov P v0 v3 (i + 1)) := by
      intro T' A2 v2 k2 hw2 g4 g5 g6 g7 g8 gj u0 u2
      have cX := hw2.hx
      have c1 := hw2.hv 1 (by omega)
      have c6 := hw2.hv 6 (by omega)
      have c8 := hw2.hv 8 (by omega)
      have m1 : i < (v2 1).length := by rw [hw2.nv 1 (by omega)]; exact hil
      have m6 : i < (v2 6).length := by rw [hw2.nv 6 (by omega)]; exact hil
      have m8 : i < (v2 8).length := by rw [hw2.nv 8 (by omega)]; exact hil
      have g1 := gj 1 (by omega)
      have g2 := gj 2 (by omega)
      rw [g1] at c1 m1
      by_cases hN : gi (v0 1) i < 1099511627776
      · have hun := hl.under (c := i) hil (oh.2 hN).2
        have hri := hl.rise (c := i) hil hun (hOl.st i hil)
        have hst : 0 ≤ gi (v2 2) i ∧ gi (v2 2) i ≤ 200000000 := by rw [g2]; exact hOl.st i hil
        have hpu := hw2.put (i := 6) (by omega) (l := (v2 6).set i (P.slo + (P.at false).rise (v0 2) i)) (by rw [List.length_set]; exact hw2.nv 6 (by omega))
        have hpu2 := hpu.put (i := 8) (by omega) (l := (v2 8).set i (gi (v0 1) i)) (by rw [List.length_set]; exact hw2.nv 8 (by omega))
        have q6 := Hp.lt_of_get c6
        have n86 := hw2.ne 8 6 (by omega) (by omega) (by omega)
        have s1 : ∀ z, (A2.set (r 6) z).get (r 8) = A2.get (r 8) := fun z => get_set_ne q6 n86
        have hlt : ((i : Nat) : Int) < P.l.length := by omega
        simp (disch := as_aux_lemma => first | omega | simp only [hDs] <;> omega | simp [isCell]) [hRs, takeMarks, resA, resAll, resOne, Value.cells, p53c, u0, u2, ptrV, cX, wkCells, rowS1, idxSA_ok, hlt, c1, ints_get m1, hN]
        refine w76 hw2 hl hil hun hst ?_
        rw [g2]
        simp (disch := as_aux_lemma => first | omega | simp only [hDs] <;> omega | simp [isCell]) [hRs, takeMarks, resA, resAll, resOne, Value.cells, p53c, u0, u2, ptrV, cX, wkCells, rowS1, idxSA_ok, hlt, c1, ints_get m1, wrId (n := P.slo + (P.at false).rise (v0 2) i) (by omega) (by omega), c6, storeB_int m6 (hg 6 (by omega)), s1, c8, storeB_int m8 (hg 8 (by omega))]
        refine ⟨Keep.put' (Keep.put' k2 q6 ⟨6, by omega, rfl⟩) (by show r 8 < A2.n; exact Hp.lt_of_get c8) ⟨8, by omega, rfl⟩, _, hpu2, ⟨?_, ?_, ?_, ?_, ?_, fun j hj => ?_⟩⟩
        · exact g4
        · exact g5
        · show (v2 6).set i _ = _
          rw [g6]
          exact srfK_set (P := P.at false) hil hN
        · exact g7
        · show (v2 8).set i _ = _
          rw [g8, cpy_set hil]
        · show upd (upd v2 6 _) 8 _ j = _
          unfold upd
          rw [if_neg (by omega), if_neg (by omega)]
          exact gj j hj
      · have hlt : ((i : Nat) : Int) < P.l.length := by omega
        simp (disch := as_aux_lemma => first | omega | simp only [hDs] <;> omega | simp [isCell]) [hRs, takeMarks, resA, resAll, resOne, Value.cells, p53c, u0, u2, ptrV, cX, wkCells, rowS1, idxSA_ok, hlt, c1, ints_get m1, hN]
        have hN' : ¬ gi (v0 1) i < Never := hN
        refine ⟨k2, v2, hw2, ⟨g4, g5, ?_, g7, ?_, gj⟩⟩
        · rw [g6]; exact srfK_skip hN
        · rw [g8]; exact cpy_skip (by omega)
    have hlt : ((i : Nat) : Int) < P.l.length := by omega
    rw [W_loop]
    by_cases hN : gi (v0 0) i < 1099511627776
    · have hun := hu.under (c := i) hil (ol.2 hN).2
      have hri := hu.rise (c := i) hil hun (hOu.st i hil)
      have hst : 0 ≤ gi (v1 3) i ∧ gi (v1 3) i ≤ 200000000 := by rw [f3]; exact hOu.st i hil
      have b4 := hw1.hv 4 (by omega)
      have m4 : i < (v1 4).length := by rw [hw1.nv 4 (by omega)]; exact hil
      have hpu := hw1.put (i := 4) (by omega) (l := (v1 4).set i (P.shi + (P.at true).rise (v0 3) i)) (by rw [List.length_set]; exact hw1.nv 4 (by omega))
      simp (disch := as_aux_lemma => first | omega | simp only [hDs] <;> omega | simp [isCell]) [hRs, takeMarks, resA, resAll, resOne, Value.cells, body53t, t0, t2, ptrV, hX, wkCells, rowS1, rowS2, idxSA_ok, hlt, a0, a7, ints_get (show i < (v 0).length by omega), storeB_int (show i < (v 7).length by omega) (hg 7 (by omega))]
      rw [← hA1]
      simp (disch := as_aux_lemma => first | omega | simp only [hDs] <;> omega | simp [isCell]) [hRs, takeMarks, resA, resAll, resOne, Value.cells, t0, t2, ptrV, bX, wkCells, rowS1, rowS2, idxSA_ok, hlt, b0, ints_get m0, hN]
      refine w75 hw1 hu hil hst ?_
      rw [f3]
      simp (disch := as_aux_lemma => first | omega | simp only [hDs] <;> omega | simp [isCell]) [hRs, takeMarks, resA, resAll, resOne, Value.cells, t0, t2, ptrV, idxSA_ok, hlt, wrId (n := P.shi + (P.at true).rise (v0 3) i) (by omega) (by omega), b4, storeB_int m4 (hg 4 (by omega))]
      refine W_mono (part3 _ _ _ (Keep.put' kk1 (Hp.lt_of_get b4) ⟨4, by omega, rfl⟩) hpu (by
        show (v1 4).set i _ = _
        rw [f4]
        exact srfK_set (P := P.at true) hil hN) f5 f6 f7 f8 (fun j hj => by
        show upd v1 4 _ j = _
        unfold upd
        rw [if_neg (by omega), hv1]
        unfold upd
        rw [if_neg (by omega)]
        exact hO.e j hj) (by simp [t0, ptrV]) (by simp [t2])) ?_
      rintro _ ⟨T3, D3, A3⟩ ⟨rfl, rfl, u0, u2, k3, v3, hw3, hO3⟩
      have u0' : tget T3 0 = ptrV X := u0
      have u2' : tget T3 2 = .int .i64 i := u2
      simp (disch := as_aux_lemma => first | omega | simp only [hDs] <;> omega | simp [isCell]) [hRs, takeMarks, resA, resAll, resOne, Value.cells, u2']
      refine ih (i + 1) _ A3 v3 (by omega) k3 hw3 hO3 ?_ ?_
      · simp [u0']
      · simp [wrId (n := (i : Int) + 1) (by omega) (by omega)]
    · have hN' : ¬ gi (v0 0) i < Never := hN
      simp (disch := as_aux_lemma => first | omega | simp only [hDs] <;> omega | simp [isCell]) [hRs, takeMarks, resA, resAll, resOne, Value.cells, body53t, t0, t2, ptrV, hX, wkCells, rowS1, rowS2, idxSA_ok, hlt, a0, a7, ints_get (show i < (v 0).length by omega), storeB_int (show i < (v 7).length by omega) (hg 7 (by omega))]
      rw [← hA1]
      simp (disch := as_aux_lemma => first | omega | simp only [hDs] <;> omega | simp [isCell]) [hRs, takeMarks, resA, resAll, resOne, Value.cells, t0, t2, ptrV, bX, wkCells, rowS1, rowS2, idxSA_ok, hlt, b0, ints_get m0, hN]
      refine W_mono (part3 _ _ _ kk1 hw1 (by rw [f4]; exact srfK_skip hN') f5 f6 f7 f8 (fun j hj => by
        rw [hv1]
        unfold upd
        rw [if_neg (by omega)]
        exact hO.e j hj) (by simp [t0, ptrV]) (by simp [t2])) ?_
      rintro _ ⟨T3, D3, A3⟩ ⟨rfl, rfl, u0, u2, k3, v3, hw3, hO3⟩
      have u0' : tget T3 0 = ptrV X := u0
      have u2' : tget T3 2 = .int .i64 i := u2
      simp (disch := as_aux_lemma => first | omega | simp only [hDs] <;> omega | simp [isCell]) [hRs, takeMarks, resA, resAll, resOne, Value.cells, u2']
      refine ih (i + 1) _ A3 v3 (by omega) k3 hw3 hO3 ?_ ?_
      · simp [u0']
      · simp [wrId (n := (i : Int) + 1) (by omega) (by omega)]
end
end Go.Ab.Wave
namespace Go.Ab.Wave
open Go Go.Ab
structure Done (P : Par) (zs : List Int) (n : Nat) (v : Nat → List Int) : Prop where
  d0 : v 0 = arrF (P.at true) zs n
  d1 : v 1 = arrF (P.at false) zs n
  d2 : v 2 = strF (P.at false) zs n
  d3 : v 3 = strF (P.at true) zs n
  d4 : v 4 = fSu (P.at true) zs n
  d5 : v 5 = fLa (P.at true) zs n
  d6 : v 6 = fSu (P.at false) zs n
  d7 : v 7 = fAr (P.at true) zs n
  d8 : v 8 = fAr (P.at false) zs n
section
variable {g : Nat} {A : Hp} {V : Value → Hp → Prop} {P : Par} {X rd : Nat} {r : Nat → Nat} {v : Nat → List Int} {n : Nat} {zs : List Int}
theorem w53 (hu : POk (P.at true)) (hl : POk (P.at false)) (hzu : StartOk (P.at true) zs n) (hzl : StartOk (P.at false) zs n) (hFu : SheetFin (P.at true) zs n) (hFl : SheetFin (P.at false) zs n) (hg : ∀ i, i < 9 → g ≤ r i) (hgA : g ≤ A.n) (hW : Work A P X rd r v)
    (h0 : v 0 = arrF (P.at true) zs n) (h3 : v 3 = strF (P.at true) zs n) (h1 : v 1 = arrF (P.at false) zs n) (h2 : v 2 = strF (P.at false) zs n)
    (h4 : v 4 = List.replicate P.l.length (-Never)) (h5 : v 5 = List.replicate P.l.length (-Never)) (h6 : v 6 = List.replicate P.l.length (-Never)) (h7 : v 7 = List.replicate P.l.length Never) (h8 : v 8 = List.replicate P.l.length Never)
    (hQ : ∀ A' v', Keep (WK r) A A' → Work A' P X rd r v' → Done P zs n v' → V (.tuple ⟨[]⟩) A') :
    WF AP KL g 53 [ptrV X] A V := by
  have hP := hu.of_at
  have hR := RO_ok (P := P) (zs := zs) (n := n) (v4 := v) hu hl hFu hFl
  have hOu : SailOk (P.at true) (v 0) (v 3) := by rw [h0, h3]; exact sailOk hu hzu hFu.arr hFu.str
  have hOl : SailOk (P.at false) (v 1) (v 2) := by rw [h1, h2]; exact sailOk hl hzl hFl.arr hFl.str
  rw [WF_body rfl (show AP 53 = some F53 from rfl)]
  simp (disch := as_aux_lemma => first | omega | simp only [hDs] <;> omega | simp [isCell]) [hRs, takeMarks, resA, resAll, resOne, Value.cells]
  refine loop53s (v0 := v) (A0 := A) hu hl hOu hOl hg (fun T' A1 v1 k1 hW1 hO1 p0 => ?_) P.l.length 0 _ A v (by omega) (Keep.refl _ _) hW ⟨?_, rfl, ?_, ?_, ?_, fun _ _ => rfl⟩ (by simp) (by simp)
  · simp (disch := as_aux_lemma => first | omega | simp only [hDs] <;> omega | simp [isCell]) [hRs, takeMarks, resA, resAll, resOne, Value.cells]
    have n1 := k1.1
    have e0 := hO1.e 0 (by omega)
    have e1 := hO1.e 1 (by omega)
    have e2 := hO1.e 2 (by omega)
    have e3 := hO1.e 3 (by omega)
    have q4 : v1 4 = srfK (P.at true) (arrF (P.at true) zs n) (strF (P.at true) zs n) (P.at true).l.length := by rw [hO1.e4, h0, h3]; rfl
    have q6 : v1 6 = srfK (P.at false) (arrF (P.at false) zs n) (strF (P.at false) zs n) (P.at false).l.length := by rw [hO1.e6, h1, h2]; rfl
    have q7 : v1 7 = arrF (P.at true) zs n := by rw [hO1.e7, h0]; exact cpy_all hFu.arr.mid.nv
    have q8 : v1 8 = arrF (P.at false) zs n := by rw [hO1.e8, h1]; exact cpy_all hFl.arr.mid.nv
    have q5 : v1 5 = List.replicate (P.at true).l.length (-Never) := by rw [hO1.e5, h5]; rfl
    refine loop53o (A0 := A1) (X := X) (rd := rd) (r := r) (R := RO P zs n v) hP hR (fun B w a b V' hB hI ha hb hq => ?_) (by omega) (fun T2 A2 v2 k2 hW2 hI hs => ?_) ((RO P zs n v).pot v1 + 1) _ A1 v1 true (Keep.refl _ _) hW1 ⟨?_, ?_, ?_, hO1.e⟩ (fun _ => Nat.lt_succ_self _) (fun e => absurd e (by decide)) ?_ ?_
    · exact w77 hu hl hB ⟨hI.1.u, hI.2.2.1.u, hI.1.f, hI.2.2.1.f⟩ ha (nb_lt hP hb) hg hq
    · simp (disch := as_aux_lemma => first | omega | simp only [hDs] <;> omega | simp [isCell]) [hRs, takeMarks, resA, resAll, resOne, Value.cells]
      have hq : ∀ a b, a < P.l.length → b ∈ nbP P a → spillR P a b v2 = v2 := fun a b ha hb => hs b (nb_lt hP hb) a ((refN_mem hP (nb_lt hP hb)).2 ⟨ha, hb⟩)
      have hqu : ∀ a b, a < (P.at true).l.length → b ∈ nbP (P.at true) a → spillA (P.at true) (v2 4) (v2 7) a b = (v2 4, v2 7) := fun a b ha hb => by
        obtain ⟨e4, e7, e5, e6, e8, ej⟩ := spillR_get (P := P) (a := a) (b := b) (v := v2)
        rw [hq a b ha hb] at e4 e7
        exact Prod.ext e4.symm e7.symm
      have hql : ∀ a b, a < (P.at false).l.length → b ∈ nbP (P.at false) a → spillA (P.at false) (v2 6) (v2 8) a b = (v2 6, v2 8) := fun a b ha hb => by
        obtain ⟨e4, e7, e5, e6, e8, ej⟩ := spillR_get (P := P) (a := a) (b := b) (v := v2)
        rw [hq a b ha hb] at e6 e8
        exact Prod.ext e6.symm e8.symm
      have hqL : ∀ a b, a < (P.at true).l.length → b ∈ nbP (P.at true) a → spillL (P.at true) (v2 4) (v2 5) a b = v2 5 := fun a b ha hb => by
        obtain ⟨e4, e7, e5, e6, e8, ej⟩ := spillR_get (P := P) (a := a) (b := b) (v := v2)
        rw [hq a b ha hb] at e5
        exact e5.symm
      have fu := hI.1.fin hu hFu hqu
      have fl := hI.2.2.1.fin hl hFl hql
      have fL := hI.2.1.fin hu hI.1 hqu hqL
      have ej := hI.2.2.2
      exact hQ A2 v2 (k1.trans k2) hW2 ⟨(ej 0 (by omega)).trans h0, (ej 1 (by omega)).trans h1, (ej 2 (by omega)).trans h2, (ej 3 (by omega)).trans h3, fu.1, fL, fl.1, fu.2, fl.2⟩
    · rw [q4, q7]; exact EndO.start hu hzu hFu
    · rw [q5]; exact EndL.start
    · rw [q6, q8]; exact EndO.start hl hzl hFl
    · simp [p0]
    · simp
  · rw [h4]; exact (srfK_zero (P := P.at true) (ar := v 0) (st := v 3)).symm
  · rw [h6]; exact (srfK_zero (P := P.at false) (ar := v 1) (st := v 2)).symm
  · rw [h7]; exact cpy_zero.symm
  · rw [h8]; exact cpy_zero.symm
end
end Go.Ab.Wave
namespace Go.Ab.Wave
open Go Go.Ab
def p54a : ACode := (.seq
 (.ops [
oM 45 0,
oM 46 1,
oA 47 71 [.t 45, .t 46] false])
 (.cond (.t 47)
 (.seq
 (.ops [
oM 48 0,
oM 49 1,
oA 50 76 [.t 48, .t 49] false,
oF 51 7 2,
oF 52 51 0,
oT 52 50 1])
 (.seq
 (.ops [
oM 53 0,
oP 54 (.nilCheck (.t 53)),
oF 55 54 4,
oF 56 55 0,
oL 57 56,
oM 58 0,
oM 59 1,
oA 60 76 [.t 58, .t 59] true,
oB 61 .add 57 60,
oF 62 7 4,
oF 63 62 0,
oT 63 61 1])
 (.ops [
oF 64 7 2,
oF 65 64 0,
oL 66 65,
oF 67 7 2,
oF 68 67 0,
oL 69 68,
oB 70 .mul 66 69,
oC 71 .mul 70 981,
oF 72 6 1,
oL 73 72,
oB 74 .quo 71 73,
oA 75 78 [.t 74] false,
oF 76 7 6,
oF 77 76 0,
oT 77 75 1])))
 .skip))
def p54b : ACode := (.seq
 (.ops [
oM 78 0,
oM 79 1,
oA 80 79 [.t 78, .t 79] false,
oM 81 80,
oN 82 81 true 0,
oQ 83 81 true (.nilCheck (.t 82)),
oQ 84 81 true (.fieldAddr (.t 83) 19),
oQ 85 81 true (.load (.t 84) none),
oN 86 81 true 1,
oQ 87 81 true (.idxS (.t 85) (.t 86) 1),
oQ 88 81 true (.load (.t 87) none),
oQ 89 81 true (.bin .neq (.t 88) (oK (-1099511627776))),
oP 90 (.pick (.t 81) (.t 89) (.k (.bool false)))])
 (.cond (.t 90)
 (.seq
 (.ops [
oM 91 0,
oP 92 (.nilCheck (.t 91)),
oF 93 92 19,
oL 94 93,
oM 95 1,
oI 96 94 95 1,
oL 97 96,
oF 98 5 1,
oL 99 98,
oB 100 .sub 97 99,
oF 101 7 2,
oF 102 101 0,
oT 102 100 1])
 (.seq
 (.ops [
oM 103 0,
oP 104 (.nilCheck (.t 103)),
oF 105 104 19,
oL 106 105,
oM 107 1,
oI 108 106 107 1,
oL 109 108,
oF 110 7 4,
oF 111 110 0,
oT 111 109 1])
 (.ops [
oF 112 7 2,
oF 113 112 0,
oL 114 113,
oP 115 (.bin .mul (oK 981) (.t 114)),
oA 116 78 [.t 115] false,
oF 117 7 6,
oF 118 117 0,
oT 118 116 1])))
 .skip))
def p54c : ACode := (.seq
 (.ops [
oM 119 0,
oM 120 1,
oA 121 69 [.t 119, .t 120] false])
 (.cond (.t 121)
 (.seq
 (.ops [
oM 122 0,
oM 123 1,
oA 124 75 [.t 122, .t 123] false,
oM 8 124])
 (.seq
 (.ops [
oM 125 8,
oF 126 7 2,
oF 127 126 1,
oT 127 125 1])
 (.seq
 (.ops [
oF 128 7 4,
oF 129 128 1,
oL 130 129,
oM 131 0,
oP 132 (.nilCheck (.t 131)),
oF 133 132 4,
oF 134 133 1,
oL 135 134,
oM 136 8,
oB 137 .add 135 136,
oP 138 (.max [.t 130, .t 137]),
oF 139 7 4,
oF 140 139 1,
oT 140 138 1])
 (.ops [
oM 141 8,
oM 142 8,
oB 143 .mul 141 142,
oC 144 .mul 143 981,
oF 145 6 0,
oL 146 145,
oP 147 (.max [.k (.int .i64 1), .t 146]),
oA 148 81 [.t 144, .t 147] false,
oA 149 80 [.t 148] false,
oF 150 7 6,
oF 151 150 1,
oT 151 149 1]))))
 .skip))
def p54d : ACode := (.seq
 (.ops [
oM 152 0,
oM 153 1,
oA 154 71 [.t 152, .t 153] false,
oP 155 (.not (.t 154))])
 (.cond (.t 155)
 (.ops [
oF 156 7 4,
oF 157 156 1,
oL 158 157,
oF 159 5 1,
oL 160 159,
oP 161 (.max [.t 158, .t 160]),
oF 162 7 4,
oF 163 162 1,
oT 163 161 1])
 .skip))
def p54e : ACode := (.seq
 (.ops [
oM 164 0,
oP 165 (.nilCheck (.t 164)),
oF 166 165 18,
oL 167 166,
oM 168 1,
oI 169 167 168 1,
oL 170 169,
oC 171 .neq 170 (-1099511627776)])
 (.cond (.t 171)
 (.seq
 (.ops [
oM 172 0,
oP 173 (.nilCheck (.t 172)),
oF 174 173 18,
oL 175 174,
oM 176 1,
oI 177 175 176 1,
oL 178 177,
oF 179 5 0,
oL 180 179,
oB 181 .sub 178 180,
oM 9 181])
 (.seq
 (.ops [
oF 182 7 2,
oF 183 182 1,
oL 184 183,
oM 185 9,
oP 186 (.max [.t 184, .t 185]),
oF 187 7 2,
oF 188 187 1,
oT 188 186 1])
 (.seq
 (.ops [
oF 189 7 4,
oF 190 189 1,
oL 191 190,
oM 192 0,
oP 193 (.nilCheck (.t 192)),
oF 194 193 18,
oL 195 194,
oM 196 1,
oI 197 195 196 1,
oL 198 197,
oP 199 (.max [.t 191, .t 198]),
oF 200 7 4,
oF 201 200 1,
oT 201 199 1])
 (.ops [
oF 202 7 6,
oF 203 202 1,
oL 204 203,
oM 205 9,
oP 206 (.bin .mul (oK 981) (.t 205)),
oA 207 80 [.t 206] true,
oP 208 (.max [.t 204, .t 207]),
oF 209 7 6,
oF 210 209 1,
oT 210 208 1]))))
 .skip))
def h54 : ACode := .seq (.ops [
oP 4 (.alloc [.int .i64 0, .int .i64 0, .int .i64 0, .int .i64 0, .int .i64 0, .int .i64 0, .int .i64 0, .int .i64 0])]) (.seq (.ops [
oM 10 0,
oP 11 (.nilCheck (.t 10)),
oF 12 11 0,
oF 13 12 3,
oL 14 13,
oM 15 1,
oI 16 14 15 2,
oD 17 16 2,
oM 18 0,
oP 19 (.nilCheck (.t 18)),
oF 20 19 12,
oL 21 20,
oM 22 1,
oI 23 21 22 2,
oD 24 23 2,
oP 5 (.alloc [.int .i64 0, .int .i64 0]),
oP 6 (.alloc [.int .i64 0, .int .i64 0]),
⟨none, none, [(.t 5, 2, .t 20, 1), (.t 5, 2, .t 23, 2)], .store (.t 5) (.t 17) 2⟩,
oT 6 24 2]) (.seq (.ops [
oM 25 0,
oP 26 (.nilCheck (.t 25)),
oF 27 26 20,
oL 28 27,
oM 29 1,
oI 30 28 29 1,
oL 31 30,
oM 32 0,
oP 33 (.nilCheck (.t 32)),
oF 34 33 21,
oL 35 34,
oM 36 1,
oI 37 35 36 1,
oL 38 37,
oP 39 (.build [.int .i64 0, .int .i64 0] [(0, 1, .t 31), (1, 1, .t 38)]),
oP 40 (.build [.int .i64 0, .int .i64 0, .int .i64 0, .int .i64 0, .int .i64 0, .int .i64 0, .int .i64 0, .int .i64 0] [(0, 2, .t 39)]),
oP 7 (.alloc [.int .i64 0, .int .i64 0, .int .i64 0, .int .i64 0, .int .i64 0, .int .i64 0, .int .i64 0, .int .i64 0]),
oT 7 40 8]) (.seq (.ops [
oF 41 5 0,
oL 42 41,
oP 43 (.build [.int .i64 0, .int .i64 0] [(0, 1, .t 42), (1, 1, .k (.int .i64 (-1200000)))]),
oF 44 7 4,
oT 44 43 2]) (.seq p54a (.seq p54b (.seq p54c (.seq p54d (.seq p54e (.seq
 (.ops [
oD 211 7 8,
oT 4 211 8])
 .ret)))))))))
theorem AP54 : AP 54 = some (.fn 212 [.cell 4 (some 8)] h54) := rfl
def E0 (P : Par) (zs : List Int) (n : Nat) : Spr := ⟨P, zs, n, 0, 0, 0, 0, 0, 0, 0, 0, 0, 0, 0, 0, 0⟩
structure S54 (P : Par) (X B4 B5 B6 B7 c : Nat) (A0 : Hp) (row : List Int) (T : List Value) (A : Hp) : Prop where
  k : Ext' A0 A
  b4 : A.get B4 = some (.cells [.int .i64 0, .int .i64 0, .int .i64 0, .int .i64 0, .int .i64 0, .int .i64 0, .int .i64 0, .int .i64 0] false)
  b5 : A.get B5 = some (.cells [.int .i64 (P.glo c), .int .i64 (P.ghi c)] false)
  b6 : A.get B6 = some (.cells [.int .i64 ((P.at false).dep c), .int .i64 ((P.at true).dep c)] false)
  b7 : A.get B7 = some (.cells (ints row) false)
  n4 : A0.n ≤ B4
  n7 : A0.n ≤ B7
  n47 : B4 < B7
  n5 : B5 < B7
  n6 : B6 < B7
  t0 : tget T 0 = ptrV X
  t1 : tget T 1 = .int .i64 c
  t4 : tget T 4 = ptrV B4
  t5 : tget T 5 = ptrV B5
  t6 : tget T 6 = ptrV B6
  t7 : tget T 7 = ptrV B7
section
variable {g : Nat} {A : Hp} {V : Value → Hp → Prop} {P : Par} {X rd : Nat} {r : Nat → Nat} {v : Nat → List Int} {B4 B5 B6 B7 c n : Nat} {zs : List Int} {A0 : Hp} {T : List Value} {D : List Nat} {rdd : Option Nat} {row : List Int}
theorem S54.put {T' : List Value} (h : S54 P X B4 B5 B6 B7 c A0 row T A) (row' : List Int) (hT : ∀ j, j < 8 → tget T' j = tget T j) : S54 P X B4 B5 B6 B7 c A0 row' T' (A.set B7 (some (.cells (ints row') false))) := by
  have hx := Hp.lt_of_get h.b7
  have a4 := h.n47
  have a5 := h.n5
  have a6 := h.n6
  have a7 := h.n7
  refine ⟨⟨h.k.1, fun y hy => ?_⟩, ?_, ?_, ?_, get_set_same h.b7, h.n4, h.n7, h.n47, h.n5, h.n6, (hT 0 (by omega)).trans h.t0, (hT 1 (by omega)).trans h.t1, (hT 4 (by omega)).trans h.t4, (hT 5 (by omega)).trans h.t5, (hT 6 (by omega)).trans h.t6, (hT 7 (by omega)).trans h.t7⟩
  · rw [get_set_ne hx (by omega)]; exact h.k.2 y hy
  · rw [get_set_ne hx (by omega)]; exact h.b4
  · rw [get_set_ne hx (by omega)]; exact h.b5
  · rw [get_set_ne hx (by omega)]; exact h.b6
theorem S54.same {T' : List Value} (h : S54 P X B4 B5 B6 B7 c A0 row T A) (hT : ∀ j, j < 8 → tget T' j = tget T j) : S54 P X B4 B5 B6 B7 c A0 row T' A :=
  ⟨h.k, h.b4, h.b5, h.b6, h.b7, h.n4, h.n7, h.n47, h.n5, h.n6, (hT 0 (by omega)).trans h.t0, (hT 1 (by omega)).trans h.t1, (hT 4 (by omega)).trans h.t4, (hT 5 (by omega)).trans h.t5, (hT 6 (by omega)).trans h.t6, (hT 7 (by omega)).trans h.t7⟩
theorem surf_land {ar st : List Int} (hP : POk P) (hO : SailOk P ar st) {b : Nat} {w : Int} (h : (PU P).Der (srfK P ar st P.l.length) b w) (hv : w ≠ -Never) (hd : ¬ 1 ≤ P.dep b) : P.lst b ≤ 0 := by
  cases h with
  | init hb =>
    have hb' : b < P.l.length := hb
    rw [srfK_get hb'] at hv
    split at hv
    · rename_i hc; exact absurd ((hO.ar b hb').2 hc.2).2 hd
    · exact absurd rfl hv
  | @step a _ w ha _ hb hs => exact (spU_true (P := P) (a := a) (b := b) (v := w) hs).2.1
structure R54 (P : Par) (zs : List Int) (n c : Nat) : Prop where
  ok : SprOk P zs n
  fin : SprFin P zs n
  hc : c < P.l.length
variable {a0 a1 a2 a3 a4 a5 a6 a7 : Int}
theorem r54a (hE : R54 P zs n c) (hW : Work A0 P X rd r v) (hd : Done P zs n v) (hg : g ≤ A0.n) (h : S54 P X B4 B5 B6 B7 c A0 (row8 [] a0 a1 0 a3 (P.glo c) a5 0 a7 []) T A) :
    W AP KL g rdd p54a ⟨T, D, A⟩ (fun ex st => ex = .normal ∧ st.D = D ∧ S54 P X B4 B5 B6 B7 c A0 (row8 [] a0 a1 (if 1 ≤ (P.at false).dep c then (E0 P zs n).riL c else 0) a3 (if 1 ≤ (P.at false).dep c then P.slo + (E0 P zs n).riL c else P.glo c) a5 (if 1 ≤ (P.at false).dep c then rootI (((E0 P zs n).riL c * (E0 P zs n).riL c * 981).tdiv ((P.at false).lst c)) else 0) a7 []) st.T st.A) := by
  have hcl : c < (P.at false).l.length := hE.hc
  have hl := hE.ok.pl
  have hWA := hW.ext h.k
  have hX := hWA.hx
  have t0 := h.t0
  have t1 := h.t1
  have t7 := h.t7
  have t6 := h.t6
  have hn7 := h.n7
  have pl0 : ([] : List Int).length = 0 := rfl
  simp (disch := as_aux_lemma => first | omega | simp only [hDs] <;> omega | simp [isCell]) [hRs, takeMarks, resA, resAll, resOne, Value.cells, p54a, t0, t1]
  refine w71 hWA hE.hc ?_
  by_cases hd1 : 1 ≤ (P.at false).dep c
  · have hO := sailOk hl hE.ok.zl hE.fin.fl.arr hE.fin.fl.str
    have hun := hl.under hcl hd1
    have hun' : 1 ≤ (P.at false).lst c := hun
    have hri := hl.rise' hcl hun (hO.st c hcl)
    have hst : 0 ≤ gi (v 2) c ∧ gi (v 2) c ≤ 200000000 := by rw [hd.d2]; exact hO.st c hcl
    have e2 : (P.at false).rise (v 2) c = (E0 P zs n).riL c := by rw [hd.d2]; rfl
    obtain ⟨q, hq⟩ : ∃ q, q = (E0 P zs n).riL c := ⟨_, rfl⟩
    have hri : 0 ≤ q ∧ q ≤ 196000 := by rw [hq]; exact hri
    have m1 : 0 ≤ q * q ∧ q * q ≤ 196000 * 196000 := ⟨Int.mul_nonneg hri.1 hri.1, Int.mul_le_mul hri.2 hri.2 hri.1 (by omega)⟩
    have hsl : -20000 ≤ P.slo ∧ P.slo ≤ P.shi ∧ P.shi ≤ 20000 := hl.sea
    have el : (P.at true).dep c = (P.at false).lst c := rfl
    have z : 0 ≤ (q * q * 981).tdiv ((P.at false).lst c) ∧ (q * q * 981).tdiv ((P.at false).lst c) ≤ q * q * 981 := by
      rw [Int.tdiv_eq_ediv_of_nonneg (by omega)]
      exact ⟨Int.ediv_nonneg (by omega) (by omega), Int.ediv_le_self _ (by omega)⟩
    have b6 := h.b6
    rw [el] at b6
    have b7 := h.b7
    simp (disch := as_aux_lemma => first | omega | simp only [hDs] <;> omega | simp [isCell]) [hRs, takeMarks, resA, resAll, resOne, Value.cells, hd1, t0, t1]
    refine w76 hWA hl hE.hc hun' hst ?_
    rw [e2, ← hq]
    have h1 := h.put (T' := T) (row8 [] a0 a1 q a3 (P.glo c) a5 0 a7 []) (fun _ _ => rfl)
    have sm : ∀ y, (A.set B7 y).get B7 = y := fun y => get_set_same b7
    have s6 : ∀ y, (A.set B7 y).get B6 = A.get B6 := fun y => get_set_ne (Hp.lt_of_get b7) (by have := h.n6; omega)
    have sX : ∀ y, (A.set B7 y).get X = A.get X := fun y => get_set_ne (Hp.lt_of_get b7) (by have := Hp.lt_of_get hW.hx; omega)
    simp (disch := as_aux_lemma => first | omega | simp only [hDs] <;> omega | simp [isCell]) [hRs, takeMarks, resA, resAll, resOne, Value.cells, t7, t0, t1, ptrV, b7, rowPut2, sX, hX, wkCells]
    refine w76 (hW.ext h1.k) hl hE.hc hun' hst ?_
    rw [e2, ← hq]
    simp (disch := as_aux_lemma => first | omega | simp only [hDs] <;> omega | simp [isCell]) [hRs, takeMarks, resA, resAll, resOne, Value.cells, t7, t6, ptrV, sm, set_set, rowPut4, rowGet2, wrId (n := P.slo + q) (by omega) (by omega), wrId (n := q * q) (by omega) (by omega), wrId (n := q * q * 981) (by omega) (by omega), s6, b6, binA_quo (show (P.at false).lst c ≠ 0 by omega), wrId (n := (q * q * 981).tdiv ((P.at false).lst c)) (by omega) (by omega)]
    refine w78 z.1 (by omega) ?_
    simp (disch := as_aux_lemma => first | omega | simp only [hDs] <;> omega | simp [isCell]) [hRs, takeMarks, resA, resAll, resOne, Value.cells, t7, ptrV, sm, set_set, rowPut6]
    refine h.put _ fun j hj => ?_
    simp only [tget_tset]
    repeat (rw [if_neg (by omega)])
  · simp (disch := as_aux_lemma => first | omega | simp only [hDs] <;> omega | simp [isCell]) [hRs, takeMarks, resA, resAll, resOne, Value.cells, hd1]
    refine h.same fun j hj => ?_
    simp only [tget_tset]
    repeat (rw [if_neg (by omega)])
theorem r54b (hE : R54 P zs n c) (hW : Work A0 P X rd r v) (hd : Done P zs n v) (hg : g ≤ A0.n) (h : S54 P X B4 B5 B6 B7 c A0 (row8 [] a0 a1 (if 1 ≤ (P.at false).dep c then (E0 P zs n).riL c else 0) a3 (if 1 ≤ (P.at false).dep c then P.slo + (E0 P zs n).riL c else P.glo c) a5 (if 1 ≤ (P.at false).dep c then rootI (((E0 P zs n).riL c * (E0 P zs n).riL c * 981).tdiv ((P.at false).lst c)) else 0) a7 []) T A) :
    W AP KL g rdd p54b ⟨T, D, A⟩ (fun ex st => ex = .normal ∧ st.D = D ∧ S54 P X B4 B5 B6 B7 c A0 (row8 [] a0 a1 ((E0 P zs n).r2 c) a3 ((E0 P zs n).r4 c) a5 ((E0 P zs n).r6 c) a7 []) st.T st.A) := by
  have hcl : c < (P.at false).l.length := hE.hc
  have hc : c < P.l.length := hE.hc
  have hl := hE.ok.pl
  have hWA := hW.ext h.k
  have hX := hWA.hx
  have t0 := h.t0
  have t1 := h.t1
  have t5 := h.t5
  have t7 := h.t7
  have hn7 := h.n7
  have pl0 : ([] : List Int).length = 0 := rfl
  have hO := sailOk hl hE.ok.zl hE.fin.fl.arr hE.fin.fl.str
  have hder := hE.fin.fl.srf.mid.der c hcl
  have hsv : SurfV (gi (fSu (P.at false) zs n) c) := surf_der hl hO hder
  have es : gi (v 6) c = (E0 P zs n).suL c := by rw [hd.d6]; rfl
  have a6 := hWA.hv 6 (by omega)
  have n6 : c < (v 6).length := by rw [hWA.nv 6 (by omega)]; exact hE.hc
  have el : (P.at false).lst c = (P.at true).dep c := rfl
  have hg0 := hl.ground hcl
  have hgr : -1200000 ≤ P.glo c ∧ P.glo c ≤ P.ghi c ∧ P.ghi c ≤ 1200000 := hg0
  simp (disch := as_aux_lemma => first | omega | simp only [hDs] <;> omega | simp [isCell]) [hRs, takeMarks, resA, resAll, resOne, Value.cells, p54b, t0, t1]
  refine w79 hWA hE.hc ?_
  by_cases hd1 : 1 ≤ (P.at false).dep c
  · have hun : 1 ≤ (P.at false).lst c := hl.under hcl hd1
    have hno : ¬ (P.at true).dep c ≤ 0 := by rw [← el]; omega
    simp (disch := as_aux_lemma => first | omega | simp only [hDs] <;> omega | simp [isCell]) [hRs, takeMarks, resA, resAll, resOne, Value.cells, hno]
    rw [if_pos hd1, if_pos hd1, if_pos hd1] at h
    have q2 : (E0 P zs n).r2 c = (E0 P zs n).riL c := by unfold Spr.r2; exact if_pos hd1
    have q4 : (E0 P zs n).r4 c = P.slo + (E0 P zs n).riL c := by unfold Spr.r4; exact if_pos hd1
    have q6 : (E0 P zs n).r6 c = rootI (((E0 P zs n).riL c * (E0 P zs n).riL c * 981).tdiv ((P.at false).lst c)) := by unfold Spr.r6; exact if_pos hd1
    rw [q2, q4, q6]
    refine h.same fun j hj => ?_
    simp only [tget_tset]
    repeat (rw [if_neg (by omega)])
  · by_cases hs : (E0 P zs n).suL c = -1099511627776
    · rw [if_neg hd1, if_neg hd1, if_neg hd1] at h
      have q2 : (E0 P zs n).r2 c = 0 := by unfold Spr.r2; rw [if_neg (show ¬ 1 ≤ ((E0 P zs n).P.at false).dep c from hd1), if_neg (fun hn => hn hs)]
      have q4 : (E0 P zs n).r4 c = P.glo c := by unfold Spr.r4; rw [if_neg (show ¬ 1 ≤ ((E0 P zs n).P.at false).dep c from hd1), if_neg (fun hn => hn hs)]; rfl
      have q6 : (E0 P zs n).r6 c = 0 := by unfold Spr.r6; rw [if_neg (show ¬ 1 ≤ ((E0 P zs n).P.at false).dep c from hd1), if_neg (fun hn => hn hs)]
      rw [q2, q4, q6]
      have hs' : gi (v 6) c = -1099511627776 := by rw [es]; exact hs
      by_cases hland : (P.at true).dep c ≤ 0
      · simp (disch := as_aux_lemma => first | omega | simp only [hDs] <;> omega | simp [isCell]) [hRs, takeMarks, resA, resAll, resOne, Value.cells, hland, t0, t1, ptrV, hX, wkCells, rowS1, idxSA_ok, show (c : Int) < P.l.length by omega, a6, ints_get n6, hs']
        refine h.same fun j hj => ?_
        simp only [tget_tset]
        repeat (rw [if_neg (by omega)])
      · simp (disch := as_aux_lemma => first | omega | simp only [hDs] <;> omega | simp [isCell]) [hRs, takeMarks, resA, resAll, resOne, Value.cells, hland]
        refine h.same fun j hj => ?_
        simp only [tget_tset]
        repeat (rw [if_neg (by omega)])
    · have hs1 : gi (fSu (P.at false) zs n) c ≠ -Never := hs
      have hland : (P.at true).dep c ≤ 0 := by rw [← el]; exact surf_land hl hO hder hs1 hd1
      have hab : agE (P.at false).up ((P.at false).glo c) ((P.at false).ghi c) < gi (fSu (P.at false) zs n) c := surf_above hl hO hder hs1 hd1
      obtain ⟨u, hu0⟩ : ∃ u, u = (E0 P zs n).suL c := ⟨_, rfl⟩
      have hab : P.ghi c < u := by rw [hu0]; exact hab
      have hsv : SurfV u := by rw [hu0]; exact hsv
      rw [← hu0] at hs es
      rcases hsv with hsv | hsv
      · exact absurd hsv hs
      rw [if_neg hd1, if_neg hd1, if_neg hd1] at h
      have hs' : u ≠ -Never := hs
      have q2 : (E0 P zs n).r2 c = u - P.ghi c := by unfold Spr.r2; rw [if_neg (show ¬ 1 ≤ ((E0 P zs n).P.at false).dep c from hd1), ← hu0, if_pos hs']; rfl
      have q4 : (E0 P zs n).r4 c = u := by unfold Spr.r4; rw [if_neg (show ¬ 1 ≤ ((E0 P zs n).P.at false).dep c from hd1), ← hu0, if_pos hs']
      have q6 : (E0 P zs n).r6 c = rootI (981 * (u - P.ghi c)) := by unfold Spr.r6; rw [if_neg (show ¬ 1 ≤ ((E0 P zs n).P.at false).dep c from hd1), ← hu0, if_pos hs']; rfl
      rw [q2, q4, q6]
      have b5 := h.b5
      have b7 := h.b7
      have sm : ∀ y, (A.set B7 y).get B7 = y := fun y => get_set_same b7
      have s5 : ∀ y, (A.set B7 y).get B5 = A.get B5 := fun y => get_set_ne (Hp.lt_of_get b7) (by have := h.n5; omega)
      have sX : ∀ y, (A.set B7 y).get X = A.get X := fun y => get_set_ne (Hp.lt_of_get b7) (by have := Hp.lt_of_get hW.hx; omega)
      have s6 : ∀ y, (A.set B7 y).get (r 6) = A.get (r 6) := fun y => get_set_ne (Hp.lt_of_get b7) (by have := Hp.lt_of_get (hW.hv 6 (by omega)); omega)
      have hs2 : ¬ u = -1099511627776 := hs
      simp (disch := as_aux_lemma => first | omega | simp only [hDs] <;> omega | simp [isCell]) [hRs, takeMarks, resA, resAll, resOne, Value.cells, hland, t0, t1, t5, t7, ptrV, hX, wkCells, rowS1, idxSA_ok, show (c : Int) < P.l.length by omega, a6, ints_get n6, es, hs2, b5, b7, sm, s5, sX, s6, set_set, wrId (n := u - P.ghi c) (by omega) (by omega), rowPut2, rowPut4, rowGet2, wrId (n := 981 * (u - P.ghi c)) (by omega) (by omega)]
      refine w78 (by omega) (by omega) ?_
      simp (disch := as_aux_lemma => first | omega | simp only [hDs] <;> omega | simp [isCell]) [hRs, takeMarks, resA, resAll, resOne, Value.cells, t7, ptrV, sm, set_set, rowPut6]
      refine h.put _ fun j hj => ?_
      simp only [tget_tset]
      repeat (rw [if_neg (by omega)])
theorem r54c (hE : R54 P zs n c) (hW : Work A0 P X rd r v) (hd : Done P zs n v) (hg : g ≤ A0.n) (h : S54 P X B4 B5 B6 B7 c A0 (row8 [] a0 a1 a2 0 a4 (-1200000) a6 0 []) T A) :
    W AP KL g rdd p54c ⟨T, D, A⟩ (fun ex st => ex = .normal ∧ st.D = D ∧ S54 P X B4 B5 B6 B7 c A0 (row8 [] a0 a1 a2 ((E0 P zs n).h3 c) a4 (if 1 ≤ (P.at true).dep c then max (-1200000) (P.shi + (E0 P zs n).riH c) else -1200000) a6 ((E0 P zs n).h7 c) []) st.T st.A) := by
  have hcl : c < (P.at true).l.length := hE.hc
  have hc : c < P.l.length := hE.hc
  have hu := hE.ok.ph
  have hWA := hW.ext h.k
  have hX := hWA.hx
  have t0 := h.t0
  have t1 := h.t1
  have t6 := h.t6
  have t7 := h.t7
  have hn7 := h.n7
  have pl0 : ([] : List Int).length = 0 := rfl
  unfold Spr.h3 Spr.h7
  have eP : (E0 P zs n).P = P := rfl
  rw [eP]
  simp (disch := as_aux_lemma => first | omega | simp only [hDs] <;> omega | simp [isCell]) [hRs, takeMarks, resA, resAll, resOne, Value.cells, p54c, t0, t1]
  refine w69 hWA hE.hc ?_
  by_cases hd1 : 1 ≤ (P.at true).dep c
  · have hO := sailOk hu hE.ok.zh hE.fin.fh.arr hE.fin.fh.str
    have hun := hu.under hcl hd1
    have hri := hu.rise' hcl hun (hO.st c hcl)
    have hst : 0 ≤ gi (v 3) c ∧ gi (v 3) c ≤ 200000000 := by rw [hd.d3]; exact hO.st c hcl
    have e2 : (P.at true).rise (v 3) c = (E0 P zs n).riH c := by rw [hd.d3]; rfl
    obtain ⟨q, hq⟩ : ∃ q, q = (E0 P zs n).riH c := ⟨_, rfl⟩
    have hri : 0 ≤ q ∧ q ≤ 196000 := by rw [hq]; exact hri
    have m1 : 0 ≤ q * q ∧ q * q ≤ 196000 * 196000 := ⟨Int.mul_nonneg hri.1 hri.1, Int.mul_le_mul hri.2 hri.2 hri.1 (by omega)⟩
    have hsl : -20000 ≤ P.slo ∧ P.slo ≤ P.shi ∧ P.shi ≤ 20000 := hu.sea
    have el : (P.at false).dep c = (P.at true).lst c := rfl
    have hl2 := hu.lst hcl
    obtain ⟨m, hm⟩ : ∃ m, m = max 1 ((P.at true).lst c) := ⟨_, rfl⟩
    have hmb : 1 ≤ m ∧ m ≤ 1220000 := by omega
    have z : 0 ≤ upI (q * q * 981) m ∧ upI (q * q * 981) m ≤ q * q * 981 := by
      unfold upI
      rw [Int.tdiv_eq_ediv_of_nonneg (by omega)]
      refine ⟨Int.ediv_nonneg (by omega) (by omega), ?_⟩
      have hk : q * q * 981 + m - 1 ≤ q * q * 981 * m + (m - 1) := by
        have := Int.mul_le_mul_of_nonneg_left (show (1 : Int) ≤ m by omega) (show 0 ≤ q * q * 981 by omega)
        omega
      have h2 := Int.ediv_le_ediv (show 0 < m by omega) hk
      rw [Int.add_comm (q * q * 981 * m), Int.add_mul_ediv_right _ _ (by omega), Int.ediv_eq_zero_of_lt (show 0 ≤ m - 1 by omega) (show m - 1 < m by omega)] at h2
      omega
    have b6 := h.b6
    rw [el] at b6
    have b7 := h.b7
    simp (disch := as_aux_lemma => first | omega | simp only [hDs] <;> omega | simp [isCell]) [hRs, takeMarks, resA, resAll, resOne, Value.cells, hd1, t0, t1]
    refine w75 hWA hu hE.hc hst ?_
    rw [e2, ← hq]
    have sm : ∀ y, (A.set B7 y).get B7 = y := fun y => get_set_same b7
    have s6 : ∀ y, (A.set B7 y).get B6 = A.get B6 := fun y => get_set_ne (Hp.lt_of_get b7) (by have := h.n6; omega)
    have sX : ∀ y, (A.set B7 y).get X = A.get X := fun y => get_set_ne (Hp.lt_of_get b7) (by have := Hp.lt_of_get hW.hx; omega)
    simp (disch := as_aux_lemma => first | omega | simp only [hDs] <;> omega | simp [isCell]) [hRs, takeMarks, resA, resAll, resOne, Value.cells, t7, t6, t0, ptrV, b7, rowPut3, sm, set_set, rowGet5, sX, hX, wkCells, wrId (n := P.shi + q) (by omega) (by omega), rowPut5, wrId (n := q * q) (by omega) (by omega), wrId (n := q * q * 981) (by omega) (by omega), s6, b6]
    rw [← hm]
    refine w81 (by omega) (by omega) (by omega) (by omega) ?_
    simp (disch := as_aux_lemma => first | omega | simp only [hDs] <;> omega | simp [isCell]) [hRs, takeMarks, resA, resAll, resOne, Value.cells]
    refine w80 z.1 (by omega) ?_
    simp (disch := as_aux_lemma => first | omega | simp only [hDs] <;> omega | simp [isCell]) [hRs, takeMarks, resA, resAll, resOne, Value.cells, t7, ptrV, sm, set_set, rowPut7]
    refine h.put _ fun j hj => ?_
    simp only [tget_tset]
    repeat (rw [if_neg (by omega)])
  · simp (disch := as_aux_lemma => first | omega | simp only [hDs] <;> omega | simp [isCell]) [hRs, takeMarks, resA, resAll, resOne, Value.cells, hd1]
    refine h.same fun j hj => ?_
    simp only [tget_tset]
    repeat (rw [if_neg (by omega)])
theorem r54d (hE : R54 P zs n c) (hW : Work A0 P X rd r v) (hg : g ≤ A0.n) (h : S54 P X B4 B5 B6 B7 c A0 (row8 [] a0 a1 a2 a3 a4 (if 1 ≤ (P.at true).dep c then max (-1200000) (P.shi + (E0 P zs n).riH c) else -1200000) a6 a7 []) T A) :
    W AP KL g rdd p54d ⟨T, D, A⟩ (fun ex st => ex = .normal ∧ st.D = D ∧ S54 P X B4 B5 B6 B7 c A0 (row8 [] a0 a1 a2 a3 a4 ((E0 P zs n).h5 c) a6 a7 []) st.T st.A) := by
  have hcl : c < (P.at true).l.length := hE.hc
  have hl := hE.ok.pl
  have hWA := hW.ext h.k
  have t0 := h.t0
  have t1 := h.t1
  have t5 := h.t5
  have t7 := h.t7
  have hn7 := h.n7
  have b5 := h.b5
  have b7 := h.b7
  have pl0 : ([] : List Int).length = 0 := rfl
  have hgr : -1200000 ≤ P.glo c ∧ P.glo c ≤ P.ghi c ∧ P.ghi c ≤ 1200000 := hl.ground (show c < (P.at false).l.length from hE.hc)
  have sm : ∀ y, (A.set B7 y).get B7 = y := fun y => get_set_same b7
  unfold Spr.h5 Spr.r5
  have eP : (E0 P zs n).P = P := rfl
  rw [eP]
  obtain ⟨x, hx⟩ : ∃ x, x = P.shi + (E0 P zs n).riH c := ⟨_, rfl⟩
  rw [← hx] at h b7 ⊢
  obtain ⟨y5, hy5⟩ : ∃ y5, y5 = if 1 ≤ (P.at true).dep c then max (-1200000) x else -1200000 := ⟨_, rfl⟩
  rw [← hy5] at h b7
  simp (disch := as_aux_lemma => first | omega | simp only [hDs] <;> omega | simp [isCell]) [hRs, takeMarks, resA, resAll, resOne, Value.cells, p54d, t0, t1]
  refine w71 hWA hE.hc ?_
  by_cases hd1 : 1 ≤ (P.at false).dep c
  · simp (disch := as_aux_lemma => first | omega | simp only [hDs] <;> omega | simp [isCell]) [hRs, takeMarks, resA, resAll, resOne, Value.cells, hd1]
    rw [← hy5]
    refine h.same fun j hj => ?_
    simp only [tget_tset]
    repeat (rw [if_neg (by omega)])
  · simp (disch := as_aux_lemma => first | omega | simp only [hDs] <;> omega | simp [isCell]) [hRs, takeMarks, resA, resAll, resOne, Value.cells, hd1, t5, t7, ptrV, b5, b7, rowGet5, rowPut5]
    have e : (if 1 ≤ (P.at true).dep c then max (P.ghi c) x else P.ghi c) = max y5 (P.ghi c) := by rw [hy5]; split <;> omega
    rw [e]
    refine h.put _ fun j hj => ?_
    simp only [tget_tset]
    repeat (rw [if_neg (by omega)])
theorem r54e (hE : R54 P zs n c) (hW : Work A0 P X rd r v) (hd : Done P zs n v) (hg : g ≤ A0.n) (h : S54 P X B4 B5 B6 B7 c A0 (row8 [] a0 a1 a2 ((E0 P zs n).h3 c) a4 ((E0 P zs n).h5 c) a6 ((E0 P zs n).h7 c) []) T A) :
    W AP KL g rdd p54e ⟨T, D, A⟩ (fun ex st => ex = .normal ∧ st.D = D ∧ S54 P X B4 B5 B6 B7 c A0 (row8 [] a0 a1 a2 ((E0 P zs n).l3 c) a4 ((E0 P zs n).l5 c) a6 ((E0 P zs n).l7 c) []) st.T st.A) := by
  have hcl : c < (P.at true).l.length := hE.hc
  have hc : c < P.l.length := hE.hc
  have hu := hE.ok.ph
  have hWA := hW.ext h.k
  have hX := hWA.hx
  have t0 := h.t0
  have t1 := h.t1
  have t5 := h.t5
  have t7 := h.t7
  have hn7 := h.n7
  have pl0 : ([] : List Int).length = 0 := rfl
  have hO := sailOk hu hE.ok.zh hE.fin.fh.arr hE.fin.fh.str
  have hgr : -1200000 ≤ P.glo c ∧ P.glo c ≤ P.ghi c ∧ P.ghi c ≤ 1200000 := hu.ground hcl
  have es : gi (v 5) c = (E0 P zs n).laH c := by rw [hd.d5]; rfl
  have a5v := hWA.hv 5 (by omega)
  have n5 : c < (v 5).length := by rw [hWA.nv 5 (by omega)]; exact hE.hc
  unfold Spr.l3 Spr.l5 Spr.l7
  have eP : (E0 P zs n).P = P := rfl
  rw [eP]
  by_cases hs : (E0 P zs n).laH c = -1099511627776
  · rw [if_neg (fun hn => hn hs), if_neg (fun hn => hn hs), if_neg (fun hn => hn hs)]
    have hs' : gi (v 5) c = -1099511627776 := by rw [es]; exact hs
    simp (disch := as_aux_lemma => first | omega | simp only [hDs] <;> omega | simp [isCell]) [hRs, takeMarks, resA, resAll, resOne, Value.cells, p54e, t0, t1, ptrV, hX, wkCells, rowS1, idxSA_ok, show (c : Int) < P.l.length by omega, a5v, ints_get n5, hs']
    refine h.same fun j hj => ?_
    simp only [tget_tset]
    repeat (rw [if_neg (by omega)])
  · obtain ⟨hab, hs1, hs2⟩ := land_above hu hO hE.fin.fh.srf hcl hs
    obtain ⟨u, hu0⟩ : ∃ u, u = (E0 P zs n).laH c := ⟨_, rfl⟩
    have hab : P.glo c < u := by rw [hu0]; exact hab
    have hs1 : -1200000 ≤ u := by rw [hu0]; exact hs1
    have hs2 : u ≤ 200020000 := by rw [hu0]; exact hs2
    rw [← hu0] at hs es ⊢
    have hs' : u ≠ -Never := hs
    rw [if_pos hs', if_pos hs', if_pos hs']
    have b5 := h.b5
    have b7 := h.b7
    have sm : ∀ y, (A.set B7 y).get B7 = y := fun y => get_set_same b7
    have s5 : ∀ y, (A.set B7 y).get B5 = A.get B5 := fun y => get_set_ne (Hp.lt_of_get b7) (by have := h.n5; omega)
    have sX : ∀ y, (A.set B7 y).get X = A.get X := fun y => get_set_ne (Hp.lt_of_get b7) (by have := Hp.lt_of_get hW.hx; omega)
    have s6 : ∀ y, (A.set B7 y).get (r 5) = A.get (r 5) := fun y => get_set_ne (Hp.lt_of_get b7) (by have := Hp.lt_of_get (hW.hv 5 (by omega)); omega)
    have hs3 : ¬ u = -1099511627776 := hs
    simp (disch := as_aux_lemma => first | omega | simp only [hDs] <;> omega | simp [isCell]) [hRs, takeMarks, resA, resAll, resOne, Value.cells, p54e, t0, t1, t5, t7, ptrV, hX, wkCells, rowS1, idxSA_ok, show (c : Int) < P.l.length by omega, a5v, ints_get n5, es, hs3, b5, b7, sm, s5, sX, s6, set_set, wrId (n := u - P.glo c) (by omega) (by omega), rowGet3, rowPut3, rowGet5, rowPut5, rowGet7, wrId (n := 981 * (u - P.glo c)) (by omega) (by omega)]
    refine w80 (by omega) (by omega) ?_
    simp (disch := as_aux_lemma => first | omega | simp only [hDs] <;> omega | simp [isCell]) [hRs, takeMarks, resA, resAll, resOne, Value.cells, t7, ptrV, sm, set_set, rowPut7]
    refine h.put _ fun j hj => ?_
    simp only [tget_tset]
    repeat (rw [if_neg (by omega)])
end
end Go.Ab.Wave
namespace Go.Ab.Wave
open Go Go.Ab
section
variable {g : Nat} {A : Hp} {V : Value → Hp → Prop} {P : Par} {X rd : Nat} {r : Nat → Nat} {v : Nat → List Int} {c n : Nat} {zs : List Int}
theorem w54 (hE : R54 P zs n c) (hW : Work A P X rd r v) (hd : Done P zs n v) (hg : g ≤ A.n)
    (hQ : ∀ A', Ext' A A' → V (.agg ⟨ints ((E0 P zs n).row c)⟩) A') : WF AP KL g 54 [ptrV X, .int .i64 c] A V := by
  have hX := hW.hx
  have hXn := Hp.lt_of_get hX
  have hc : c < P.l.length := hE.hc
  obtain ⟨y, cap, ro, hsl, hy⟩ := ground_two (P := P) hW.hg hE.hc
  have hyn := Hp.lt_of_get hy
  have hgl : (flat2 P.l).length = P.l.length * 2 := flat2_length _
  have eg0 : gi (flat2 P.l) (c * 2) = P.glo c := rfl
  have eg1 : gi (flat2 P.l) (c * 2 + 1) = P.ghi c := rfl
  obtain ⟨hl, e0, e1⟩ := Work.dep hE.hc
  have hdd := hW.hd
  have hdn := Hp.lt_of_get hdd
  have a7 := hW.hv 7 (by omega)
  have a8 := hW.hv 8 (by omega)
  have n7 : c < (v 7).length := by rw [hW.nv 7 (by omega)]; exact hc
  have n8 : c < (v 8).length := by rw [hW.nv 8 (by omega)]; exact hc
  have l7 := Hp.lt_of_get a7
  have l8 := Hp.lt_of_get a8
  rw [WF_body rfl AP54]
  simp (disch := as_aux_lemma => first | omega | simp only [hDs] <;> omega | simp [isCell]) [hRs, takeMarks, resA, resAll, resOne, Value.cells, h54, ptrV, hX, wkCells, rowS1, rowS2, idxSA_ok, show (c : Int) < P.l.length by omega, hsl, hy, hdd, ints_two, eg0, eg1, e0, e1, apartA, storeB_cells, setRange_all, set_push_eq, a7, a8, ints_get n7, ints_get n8, fillA, setRange, show ¬ A.n + 1 = X by omega, show ¬ A.n + 1 = rd by omega]
  obtain ⟨B3, hB3⟩ : ∃ B3, B3 = ((A.push (.cells [.int .i64 0, .int .i64 0, .int .i64 0, .int .i64 0, .int .i64 0, .int .i64 0, .int .i64 0, .int .i64 0] false)).push (.cells [.int .i64 (P.glo c), .int .i64 (P.ghi c)] false)).push (.cells [.int .i64 ((P.at false).dep c), .int .i64 ((P.at true).dep c)] false) := ⟨_, rfl⟩
  rw [← hB3]
  have k3 : Ext' A B3 := by rw [hB3]; exact ((Ext'.push _ _).trans (Ext'.push _ _)).trans (Ext'.push _ _)
  have n3 : B3.n = A.n + 3 := by rw [hB3]; rfl
  have c4 : B3.get A.n = some (.cells [.int .i64 0, .int .i64 0, .int .i64 0, .int .i64 0, .int .i64 0, .int .i64 0, .int .i64 0, .int .i64 0] false) := by rw [hB3]; exact push3_a
  have c5 : B3.get (A.n + 1) = some (.cells [.int .i64 (P.glo c), .int .i64 (P.ghi c)] false) := by rw [hB3]; exact push3_b
  have c6 : B3.get (A.n + 2) = some (.cells [.int .i64 ((P.at false).dep c), .int .i64 ((P.at true).dep c)] false) := by rw [hB3]; exact push3_c
  obtain ⟨B, hB⟩ : ∃ B, B = B3.push (.cells (ints (row8 [] (gi (v 7) c) (gi (v 8) c) 0 0 (P.glo c) (-1200000) 0 0 [])) false) := ⟨_, rfl⟩
  have hB' := hB
  simp only [row8, ints, List.nil_append, List.map_cons, List.map_nil] at hB'
  rw [← hB']
  have kB : Ext' B3 B := by rw [hB]; exact Ext'.push _ _
  have c7 : B.get (A.n + 3) = some (.cells (ints (row8 [] (gi (v 7) c) (gi (v 8) c) 0 0 (P.glo c) (-1200000) 0 0 [])) false) := by rw [hB, ← n3]; exact get_push_new
  refine W_mono (r54a (B4 := A.n) (B5 := A.n + 1) (B6 := A.n + 2) (B7 := A.n + 3) (A0 := A) hE hW hd hg ⟨k3.trans kB, kB.get c4, kB.get c5, kB.get c6, c7, by omega, by omega, by omega, by omega, by omega, by simp [ptrV], by simp, by simp [ptrV], by simp [ptrV], by simp [ptrV], by simp [ptrV]⟩) ?_
  rintro _ ⟨T1, D1, A1⟩ ⟨rfl, rfl, h1⟩
  simp (disch := as_aux_lemma => first | omega | simp only [hDs] <;> omega | simp [isCell]) [hRs, takeMarks, resA, resAll, resOne, Value.cells]
  refine W_mono (r54b hE hW hd hg h1) ?_
  rintro _ ⟨T2, D2, A2⟩ ⟨rfl, rfl, h2⟩
  simp (disch := as_aux_lemma => first | omega | simp only [hDs] <;> omega | simp [isCell]) [hRs, takeMarks, resA, resAll, resOne, Value.cells]
  refine W_mono (r54c hE hW hd hg h2) ?_
  rintro _ ⟨T3, D3, A3⟩ ⟨rfl, rfl, h3⟩
  simp (disch := as_aux_lemma => first | omega | simp only [hDs] <;> omega | simp [isCell]) [hRs, takeMarks, resA, resAll, resOne, Value.cells]
  refine W_mono (r54d hE hW hg h3) ?_
  rintro _ ⟨T4, D4, A4⟩ ⟨rfl, rfl, h4⟩
  simp (disch := as_aux_lemma => first | omega | simp only [hDs] <;> omega | simp [isCell]) [hRs, takeMarks, resA, resAll, resOne, Value.cells]
  refine W_mono (r54e hE hW hd hg h4) ?_
  rintro _ ⟨T5, D5, A5⟩ ⟨rfl, rfl, h5⟩
  have t7 : tget T5 7 = ptrV (A.n + 3) := h5.t7
  have t4 : tget T5 4 = ptrV A.n := h5.t4
  have b7 : A5.get (A.n + 3) = some (.cells [.int .i64 (gi (v 7) c), .int .i64 (gi (v 8) c), .int .i64 ((E0 P zs n).r2 c), .int .i64 ((E0 P zs n).l3 c), .int .i64 ((E0 P zs n).r4 c), .int .i64 ((E0 P zs n).l5 c), .int .i64 ((E0 P zs n).r6 c), .int .i64 ((E0 P zs n).l7 c)] false) := h5.b7
  have b4 : A5.get A.n = some (.cells [.int .i64 0, .int .i64 0, .int .i64 0, .int .i64 0, .int .i64 0, .int .i64 0, .int .i64 0, .int .i64 0] false) := h5.b4
  have k5 : Ext' A A5 := h5.k
  have sm : ∀ z, (A5.set A.n z).get A.n = z := fun z => get_set_same b4
  simp (disch := as_aux_lemma => first | omega | simp only [hDs] <;> omega | simp [isCell]) [hRs, takeMarks, resA, resAll, resOne, Value.cells, t7, t4, ptrV, b7, b4, storeB_cells, setRange_all, sm]
  have e7 : gi (v 7) c = gi (fAr (P.at true) zs n) c := by rw [hd.d7]
  have e8 : gi (v 8) c = gi (fAr (P.at false) zs n) c := by rw [hd.d8]
  have := hQ (A5.set A.n (some (.cells [.int .i64 (gi (v 7) c), .int .i64 (gi (v 8) c), .int .i64 ((E0 P zs n).r2 c), .int .i64 ((E0 P zs n).l3 c), .int .i64 ((E0 P zs n).r4 c), .int .i64 ((E0 P zs n).l5 c), .int .i64 ((E0 P zs n).r6 c), .int .i64 ((E0 P zs n).l7 c)] false))) ⟨k5.1, fun z hz => by rw [get_set_ne (Hp.lt_of_get b4) (by omega)]; exact k5.2 z hz⟩
  unfold Spr.row at this
  simp only [ints, List.map_cons, List.map_nil] at this
  rw [e7, e8] at this ⊢
  exact this
end
end Go.Ab.Wave
namespace Go.Ab.Wave
open Go Go.Ab
section
variable {g : Nat} {A : Hp} {V : Value → Hp → Prop} {P : Par} {zs : List Int} {n : Nat} {sls : Value}
theorem loop51 {x : Int} {N m : Nat} {A0 : Hp} {D : List Nat} {rd : Option Nat} {Q : Ex → St → Prop} (hm : m < 1000000) (hg : g ≤ N) (hQ : ∀ T' A' sv, AccS N A' 1 (ints (List.replicate m x)) sv → (∀ y, y < N → A'.get y = A0.get y) → N ≤ A'.n → tget T' 5 = sv → Q (.exit 0) ⟨T', D, A'⟩) :
    ∀ (k i : Nat) (T : List Value) (A : Hp) (sv : Value), i + k = m → AccS N A 1 (ints (List.replicate i x)) sv → (∀ y, y < N → A.get y = A0.get y) → N ≤ A.n → tget T 0 = .int .i64 m → tget T 1 = .int .i64 x → tget T 5 = sv → tget T 6 = .int .i64 i → W AP KL g rd (.loop body51) ⟨T, D, A⟩ Q := by
  intro k
  induction k with
  | zero =>
    intro i T A sv hi hacc hold hn t0 t1 t5 t6
    have e : i = m := by omega
    rw [W_loop]
    simp (disch := as_aux_lemma => first | omega | simp only [hDs] <;> omega | simp [isCell]) [hRs, takeMarks, resA, resAll, resOne, Value.cells, body51, t0, t6, show ¬ (i : Int) < (m : Int) by omega]
    rw [e] at hacc
    exact hQ _ A sv hacc hold hn (by simp [t5])
  | succ k ih =>
    intro i T A sv hi hacc hold hn t0 t1 t5 t6
    obtain ⟨sv', A', e, hacc', hold', hn'⟩ := hacc.add (g := g) (bytes := 8) (new := [.int .i64 x]) (ro := false) (n := i) hg hn rfl (by decide) rfl (by simp) (by unfold room; omega)
    rw [W_loop]
    simp (disch := as_aux_lemma => first | omega | simp only [hDs] <;> omega | simp [isCell]) [hRs, takeMarks, resA, resAll, resOne, Value.cells, body51, t0, t1, t5, t6, show (i : Int) < (m : Int) by omega, slitA, fillA, setRange, e]
    refine ih (i + 1) _ A' sv' (by omega) ?_ (fun y hy => by rw [hold' y hy, hold y hy]) (by omega) ?_ ?_ ?_ ?_
    · rw [List.replicate_succ', ints_append]; exact hacc'
    · simp [t0]
    · simp [t1]
    · simp
    · simp [wrId (n := (i : Int) + 1) (by omega) (by omega)]
theorem w51 {x : Int} {m : Nat} (hm : m < 1000000) (hg : g ≤ A.n) (hQ : ∀ A' sv, Ext' A A' → AccS A.n A' 1 (ints (List.replicate m x)) sv → V sv A') : WF AP KL g 51 [.int .i64 m, .int .i64 x] A V := by
  rw [WF_body rfl (show AP 51 = some F51 from rfl)]
  simp (disch := as_aux_lemma => first | omega | simp only [hDs] <;> omega | simp [isCell]) [hRs, takeMarks, resA, resAll, resOne, Value.cells]
  refine loop51 (x := x) (A0 := A) (N := A.n) hm hg (fun T' A' sv h1 h2 h3 h5 => ?_) m 0 _ A (.slice none 0 0) (by omega) AccS.nil (fun _ _ => rfl) (Nat.le_refl _) (by simp) (by simp) (by simp) (by simp)
  simp (disch := as_aux_lemma => first | omega | simp only [hDs] <;> omega | simp [isCell]) [hRs, takeMarks, resA, resAll, resOne, Value.cells, h5]
  exact hQ A' sv ⟨h3, h2⟩ h1
theorem w46 (hgr : groundOf A P.sl = some P.l) (hg : g ≤ A.n) (hQ : ∀ A', Ext' A A' → V (.int .i64 (prepE P)) A') : WF AP KL g 46 [gridV P.w P.h P.s P.sl, spn P.slo P.shi, modelV P.k0 P.k1 P.l0 P.l1 P.o0 P.o1] A V := by
  obtain ⟨B, hB⟩ : ∃ B, B = ((A.push (.cells [.int .i64 P.w, .int .i64 P.h, .int .i64 P.s, P.sl] false)).push (.cells [.int .i64 P.slo, .int .i64 P.shi] false)).push (.cells [.int .i64 P.k0, .int .i64 P.k1, .int .i64 P.l0, .int .i64 P.l1, .int .i64 P.o0, .int .i64 P.o1] false) := ⟨_, rfl⟩
  have kB : Ext' A B := by rw [hB]; exact ((Ext'.push _ _).trans (Ext'.push _ _)).trans (Ext'.push _ _)
  have b4 : B.get A.n = some (.cells [.int .i64 P.w, .int .i64 P.h, .int .i64 P.s, P.sl] false) := by rw [hB]; exact push3_a
  have b5 : B.get (A.n + 1) = some (.cells [.int .i64 P.slo, .int .i64 P.shi] false) := by rw [hB]; exact push3_b
  have b6 : B.get (A.n + 2) = some (.cells [.int .i64 P.k0, .int .i64 P.k1, .int .i64 P.l0, .int .i64 P.l1, .int .i64 P.o0, .int .i64 P.o1] false) := by rw [hB]; exact push3_c
  have hgB := groundOf_mono hgr kB.2
  have hq := hQ B kB
  unfold prepE at hq
  rw [WF_body rfl (show AP 46 = some F46 from rfl)]
  by_cases h1 : checkG P.w P.h P.s P.l = 0
  · by_cases h2 : inS P.slo P.shi (-20000) 20000 = true
    · simp (disch := as_aux_lemma => first | omega | simp only [hDs] <;> omega | simp [isCell]) [hRs, takeMarks, resA, resAll, resOne, Value.cells, gridV, spn, modelV, J]
      rw [← hB]
      simp (disch := as_aux_lemma => first | omega | simp only [hDs] <;> omega | simp [isCell]) [hRs, takeMarks, resA, resAll, resOne, Value.cells, b4, b5, b6, WF_spec (show KL 40 = some S37 from rfl), S37_eq hgB, WF_spec (show KL 43 = some S42 from rfl), S42_eq, WF_spec (show KL 15 = some S13 from rfl), S13_eq, h1, h2]
      rw [if_pos h1, if_pos h2] at hq
      exact hq
    · simp (disch := as_aux_lemma => first | omega | simp only [hDs] <;> omega | simp [isCell]) [hRs, takeMarks, resA, resAll, resOne, Value.cells, gridV, spn, modelV, J]
      rw [← hB]
      simp (disch := as_aux_lemma => first | omega | simp only [hDs] <;> omega | simp [isCell]) [hRs, takeMarks, resA, resAll, resOne, Value.cells, b4, b5, b6, WF_spec (show KL 40 = some S37 from rfl), S37_eq hgB, WF_spec (show KL 43 = some S42 from rfl), S42_eq, h1, h2]
      rw [if_pos h1, if_neg h2] at hq
      exact hq
  · simp (disch := as_aux_lemma => first | omega | simp only [hDs] <;> omega | simp [isCell]) [hRs, takeMarks, resA, resAll, resOne, Value.cells, gridV, spn, modelV, J]
    rw [← hB]
    simp (disch := as_aux_lemma => first | omega | simp only [hDs] <;> omega | simp [isCell]) [hRs, takeMarks, resA, resAll, resOne, Value.cells, b4, b5, b6, WF_spec (show KL 40 = some S37 from rfl), S37_eq hgB, h1]
    rw [if_neg h1] at hq
    exact hq
theorem loop28a {D : List Nat} {rd : Option Nat} {Q : Ex → St → Prop} {A0 : Hp} {b4 : Nat} {T0 : List Value} (hn : n < 1000000) (hlen : lenV P.sl = some (.int .i64 P.l.length))
    (hb : A0.get b4 = some (.cells [.int .i64 P.w, .int .i64 P.h, .int .i64 P.s, P.sl] false)) (hr : RdS A0 5 n (ints zs) sls)
    (hQ : ∀ T', stE P zs 0 n = 0 → (∀ i, i < 10 → tget T' i = tget T0 i) → Q (.exit 0) ⟨T', D, A0⟩)
    (hE : ∀ T', stE P zs 0 n ≠ 0 → tget T' 8 = .slice none 0 0 → tget T' 9 = .int .i64 (stE P zs 0 n) → Q .ret ⟨T', D, A0⟩) :
    ∀ (k i : Nat) (T : List Value), i + k = n → stE P zs 0 n = stE P zs i k → (∀ i, i < 10 → tget T i = tget T0 i) → tget T0 4 = ptrV b4 → tget T0 3 = sls → tget T 11 = .int .i64 i → W AP KL g rd (.loop body28a) ⟨T, D, A0⟩ Q := by
  intro k
  have hlenS := hr.len
  have hzl : zs.length = n * 5 := by have := hr.1; rwa [ints_length] at this
  induction k with
  | zero =>
    intro i T hi he hT t4 t3' t11
    have t3 := (hT 3 (by omega)).trans t3'
    have e : i = n := by omega
    rw [W_loop]
    simp (disch := as_aux_lemma => first | omega | simp only [hDs] <;> omega | simp [isCell]) [hRs, takeMarks, resA, resAll, resOne, Value.cells, body28a, t3, t11, hlenS, show ¬ (i : Int) < (n : Int) by omega]
    refine hQ _ (by rw [he]; rfl) fun j hj => ?_
    simp only [tget_tset]
    repeat (rw [if_neg (by omega)])
    exact hT j hj
  | succ k ih =>
    intro i T hi he hT t4' t3' t11
    have t4 := (hT 4 (by omega)).trans t4'
    obtain ⟨y, cap, ro, hsl, hy⟩ := hr.at (i := i) (by omega)
    have t3 := ((hT 3 (by omega)).trans t3').trans hsl
    have bad : ∀ (T' : List Value), stBad P zs i ≠ 0 → tget T' 8 = .slice none 0 0 → tget T' 9 = .int .i64 (stBad P zs i) → Q .ret ⟨T', D, A0⟩ := by
      intro T' h h8 h9
      have e : stE P zs 0 n = stBad P zs i := by rw [he]; unfold stE; rw [if_neg h]
      exact hE T' (by rw [e]; exact h) h8 (by rw [e]; exact h9)
    have i0 := ints_get (l := zs) (o := i * 5) (by omega)
    rw [W_loop]
    by_cases c1 : gi zs (i * 5) < 0
    · simp (disch := as_aux_lemma => first | omega | simp only [hDs] <;> omega | simp [isCell]) [hRs, takeMarks, resA, resAll, resOne, Value.cells, body28a, t3, t11, show (i : Int) < (n : Int) by omega, idxSA_ok, hy, i0, c1]
      refine bad _ ?_ ?_ ?_
      · simp [stBad, c1]
      · simp
      · simp [stBad, c1]
    · by_cases c2 : (P.l.length : Int) ≤ gi zs (i * 5)
      · simp (disch := as_aux_lemma => first | omega | simp only [hDs] <;> omega | simp [isCell]) [hRs, takeMarks, resA, resAll, resOne, Value.cells, body28a, t3, t11, show (i : Int) < (n : Int) by omega, idxSA_ok, hy, i0, c1, t4, ptrV, hb, hlen, c2]
        refine bad _ ?_ ?_ ?_
        · simp [stBad, c2]
        · simp
        · simp [stBad, c2]
      · by_cases c3 : inS (gi zs (i * 5 + 1)) (gi zs (i * 5 + 2)) 0 1000000000 = true
        · by_cases c4 : inS (gi zs (i * 5 + 3)) (gi zs (i * 5 + 4)) 0 5000 = true
          · simp (disch := as_aux_lemma => first | omega | simp only [hDs] <;> omega | simp [isCell]) [hRs, takeMarks, resA, resAll, resOne, Value.cells, body28a, t3, t11, show (i : Int) < (n : Int) by omega, idxSA_ok, hy, i0, c1, t4, ptrV, hb, hlen, c2, ints_two, WF_spec (show KL 43 = some S42 from rfl), S42_eq, c3, c4]
            have e0 : stBad P zs i = 0 := by simp [stBad, c1, c2, c3, c4]
            refine ih (i + 1) _ (by omega) ?_ ?_ t4' t3' ?_
            · rw [he]; show (if stBad P zs i = 0 then _ else _) = _; rw [if_pos e0]
            · intro j hj
              simp only [tget_tset]
              repeat (rw [if_neg (by omega)])
              exact hT j hj
            · simp [wrId (n := (i : Int) + 1) (by omega) (by omega)]
          · simp (disch := as_aux_lemma => first | omega | simp only [hDs] <;> omega | simp [isCell]) [hRs, takeMarks, resA, resAll, resOne, Value.cells, body28a, t3, t11, show (i : Int) < (n : Int) by omega, idxSA_ok, hy, i0, c1, t4, ptrV, hb, hlen, c2, ints_two, WF_spec (show KL 43 = some S42 from rfl), S42_eq, c3, c4]
            refine bad _ ?_ ?_ ?_
            · simp [stBad, c1, c2, c3, c4]
            · simp
            · simp [stBad, c1, c2, c3, c4]
        · simp (disch := as_aux_lemma => first | omega | simp only [hDs] <;> omega | simp [isCell]) [hRs, takeMarks, resA, resAll, resOne, Value.cells, body28a, t3, t11, show (i : Int) < (n : Int) by omega, idxSA_ok, hy, i0, c1, t4, ptrV, hb, hlen, c2, ints_two, WF_spec (show KL 43 = some S42 from rfl), S42_eq, c3]
          refine bad _ ?_ ?_ ?_
          · simp [stBad, c1, c2, c3]
          · simp
          · simp [stBad, c1, c2, c3]
end
end Go.Ab.Wave
