/- the reference: overflow, whole. -/
import Derived.Test.YtmmpjfknmdlpoaaZ18
set_option linter.unusedSimpArgs false
set_option linter.unusedVariables false
set_option linter.unusedSectionVars false
namespace Go.Ab.Wave
open Go Go.Ab
def p52a : ACode := (.seq
 (.ops [
oM 21 0,
oM 22 5,
oA 23 69 [.t 21, .t 22] false])
 (.cond (.t 23)
 (.seq
 (.ops [
oM 24 0,
oP 25 (.nilCheck (.t 24)),
oF 26 25 13,
oL 27 26,
oM 28 5,
oM 29 0,
oP 30 (.nilCheck (.t 29)),
oF 31 30 13,
oL 32 31,
oM 33 5,
oI 34 32 33 1,
oL 35 34,
oM 36 1,
oM 37 4,
oI 38 36 37 5,
oF 39 38 1,
oF 40 39 0,
oL 41 40,
oP 42 (.min [.t 35, .t 41]),
oI 43 27 28 1,
oT 43 42 1])
 (.ops [
oM 44 0,
oP 45 (.nilCheck (.t 44)),
oF 46 45 16,
oL 47 46,
oM 48 5,
oM 49 0,
oP 50 (.nilCheck (.t 49)),
oF 51 50 16,
oL 52 51,
oM 53 5,
oI 54 52 53 1,
oL 55 54,
oM 56 1,
oM 57 4,
oI 58 56 57 5,
oF 59 58 3,
oF 60 59 1,
oL 61 60,
oM 62 0,
oP 63 (.nilCheck (.t 62)),
oF 64 63 12,
oL 65 64,
oM 66 5,
oI 67 65 66 2,
oF 68 67 1,
oL 69 68,
oA 70 70 [.t 69] true,
oB 71 .mul 61 70,
oP 72 (.max [.t 55, .t 71]),
oI 73 47 48 1,
oT 73 72 1]))
 .skip))
def p52b : ACode := (.seq
 (.ops [
oM 74 0,
oM 75 5,
oA 76 71 [.t 74, .t 75] false])
 (.cond (.t 76)
 (.seq
 (.ops [
oM 77 0,
oP 78 (.nilCheck (.t 77)),
oF 79 78 14,
oL 80 79,
oM 81 5,
oM 82 0,
oP 83 (.nilCheck (.t 82)),
oF 84 83 14,
oL 85 84,
oM 86 5,
oI 87 85 86 1,
oL 88 87,
oM 89 1,
oM 90 4,
oI 91 89 90 5,
oF 92 91 1,
oF 93 92 1,
oL 94 93,
oP 95 (.min [.t 88, .t 94]),
oI 96 80 81 1,
oT 96 95 1])
 (.ops [
oM 97 0,
oP 98 (.nilCheck (.t 97)),
oF 99 98 15,
oL 100 99,
oM 101 5,
oM 102 0,
oP 103 (.nilCheck (.t 102)),
oF 104 103 15,
oL 105 104,
oM 106 5,
oI 107 105 106 1,
oL 108 107,
oM 109 1,
oM 110 4,
oI 111 109 110 5,
oF 112 111 3,
oF 113 112 0,
oL 114 113,
oM 115 0,
oP 116 (.nilCheck (.t 115)),
oF 117 116 12,
oL 118 117,
oM 119 5,
oI 120 118 119 2,
oF 121 120 0,
oL 122 121,
oA 123 72 [.t 122] true,
oB 124 .mul 114 123,
oP 125 (.max [.t 108, .t 124]),
oI 126 100 101 1,
oT 126 125 1]))
 .skip))
def body52s : ACode := .seq (.seq
 (.ops [
oM 10 4,
oM 11 1,
oP 12 (.len (.t 11)),
oB 13 .lss 10 12])
 (.cond (.t 13)
 .skip
 (.exit 0))) (.seq (.block 1 (.seq (.ops [
oM 16 1,
oM 17 4,
oI 18 16 17 5,
oF 19 18 0,
oL 20 19,
oM 5 20]) (.seq p52a p52b))) (.ops [
oM 14 4,
oC 15 .add 14 1,
oM 4 15]))
def stU (P : Par) (zs : List Int) (i : Nat) (v : Nat → List Int) : Nat → List Int := upd (upd v 0 (stA (P.at true) zs (v 0) i)) 3 (stS (P.at true) zs (v 3) i)
def stD (P : Par) (zs : List Int) (i : Nat) (v : Nat → List Int) : Nat → List Int := upd (upd v 1 (stA (P.at false) zs (v 1) i)) 2 (stS (P.at false) zs (v 2) i)
structure S52 (P : Par) (X rd : Nat) (r : Nat → Nat) (y i c : Nat) (ro : Bool) (sls : Value) (zs : List Int) (A0 : Hp) (v : Nat → List Int) (T : List Value) (A : Hp) : Prop where
  w : Work A P X rd r v
  gy : A.get y = some (.cells (ints zs) ro)
  ne : ∀ j, j < 9 → y ≠ r j
  k : Keep (WK r) A0 A
  t0 : tget T 0 = ptrV X
  t1 : tget T 1 = sls
  t4 : tget T 4 = .int .i64 i
  t5 : tget T 5 = .int .i64 c
section
variable {g : Nat} {A : Hp} {V : Value → Hp → Prop} {P : Par} {X rd : Nat} {r : Nat → Nat} {v : Nat → List Int} {y i c n : Nat} {ro : Bool} {sls : Value} {zs : List Int} {A0 : Hp} {T : List Value} {D : List Nat} {rdd : Option Nat}
theorem S52.put {T' : List Value} (h : S52 P X rd r y i c ro sls zs A0 v T A) {j : Nat} (hj : j < 9) {l : List Int} (hl : l.length = P.l.length) (hT : ∀ j, j < 6 → tget T' j = tget T j) : S52 P X rd r y i c ro sls zs A0 (upd v j l) T' (A.set (r j) (some (.cells (ints l) false))) :=
  ⟨h.w.put hj hl, by rw [get_set_ne (Hp.lt_of_get (h.w.hv j hj)) (h.ne j hj)]; exact h.gy, h.ne, Keep.put' h.k (Hp.lt_of_get (h.w.hv j hj)) ⟨j, hj, rfl⟩, (hT 0 (by omega)).trans h.t0, (hT 1 (by omega)).trans h.t1, (hT 4 (by omega)).trans h.t4, (hT 5 (by omega)).trans h.t5⟩
theorem S52.same {T' : List Value} (h : S52 P X rd r y i c ro sls zs A0 v T A) (hT : ∀ j, j < 6 → tget T' j = tget T j) : S52 P X rd r y i c ro sls zs A0 v T' A :=
  ⟨h.w, h.gy, h.ne, h.k, (hT 0 (by omega)).trans h.t0, (hT 1 (by omega)).trans h.t1, (hT 4 (by omega)).trans h.t4, (hT 5 (by omega)).trans h.t5⟩
theorem r52a (hP : POk (P.at true)) (hz : StartOk (P.at true) zs n) {cp : Nat} (hsl : sls = .slice (some ⟨y, 0, some 5⟩) n cp) (hi : i < n) (hcc : stC zs i = c) (hc : c < P.l.length) (hg : ∀ i, i < 9 → g ≤ r i) (h : S52 P X rd r y i c ro sls zs A0 v T A) :
    W AP KL g rdd p52a ⟨T, D, A⟩ (fun ex st => ex = .normal ∧ st.D = D ∧ S52 P X rd r y i c ro sls zs A0 (stU P zs i v) st.T st.A) := by
  have t0 := h.t0
  have t1 := h.t1.trans hsl
  have t4 := h.t4
  have t5 := h.t5
  have hy := h.gy
  have hW := h.w
  have hX := hW.hx
  have hd := hW.hd
  have va := hW.hv 0 (by omega)
  have vs := hW.hv 3 (by omega)
  have na : (v 0).length = P.l.length := hW.nv 0 (by omega)
  have ns : (v 3).length = P.l.length := hW.nv 3 (by omega)
  have hzl := hz.len
  have ht := hz.time i hi
  have hri := hz.rise i hi
  have sx : ∀ z, (A.set (r 0) z).get X = A.get X := fun z => get_set_ne (Hp.lt_of_get va) (fun e => (hW.nd 0 (by omega)).2 e.symm)
  have sv : ∀ z, (A.set (r 0) z).get (r 3) = A.get (r 3) := fun z => get_set_ne (Hp.lt_of_get va) (hW.ne 3 0 (by omega) (by omega) (by omega))
  have sy : ∀ z, (A.set (r 0) z).get y = A.get y := fun z => get_set_ne (Hp.lt_of_get va) (h.ne 0 (by omega))
  have sd : ∀ z, (A.set (r 0) z).get rd = A.get rd := fun z => get_set_ne (Hp.lt_of_get va) (fun e => (hW.nd 0 (by omega)).1 e.symm)
  obtain ⟨hl, e0, e1⟩ := Work.dep hc
  simp (disch := as_aux_lemma => first | omega | simp only [hDs] <;> omega | simp [isCell]) [hRs, takeMarks, resA, resAll, resOne, Value.cells, p52a, t0, t5]
  refine w69 hW hc ?_
  by_cases hd1 : 1 ≤ (P.at true).dep c
  · have hdp := hP.dep (c := c) hc
    have hfb := (fourth_bounds (b := true) hd1 hdp.2).2
    have hri : 0 ≤ gi zs (i * 5 + 4) ∧ gi zs (i * 5 + 4) ≤ 5000 := by omega
    have hm : 0 ≤ gi zs (i * 5 + 4) * fourthE true ((P.at true).dep c) ∧ gi zs (i * 5 + 4) * fourthE true ((P.at true).dep c) ≤ 5000 * 34040 := ⟨Int.mul_nonneg (by omega) (by omega), Int.mul_le_mul hri.2 hfb.2 (by omega) (by omega)⟩
    have eA : stA (P.at true) zs (v 0) i = (v 0).set c (min (gi (v 0) c) (gi zs (i * 5 + 1))) := by unfold stA; rw [hcc, if_pos hd1]; rfl
    have eS : stS (P.at true) zs (v 3) i = (v 3).set c (max (gi (v 3) c) (gi zs (i * 5 + 4) * fourthE true ((P.at true).dep c))) := by unfold stS; rw [hcc, if_pos hd1]; rfl
    have hst := h.put (T' := T) (j := 0) (by omega) (l := stA (P.at true) zs (v 0) i) (by rw [eA, List.length_set]; exact na) (fun _ _ => rfl)
    have hf := hst.put (T' := T) (j := 3) (by omega) (l := stS (P.at true) zs (v 3) i) (by rw [eS, List.length_set]; exact ns) (fun _ _ => rfl)
    rw [eA, eS] at hf
    simp (disch := as_aux_lemma => first | omega | simp only [hDs] <;> omega | simp [isCell]) [hRs, takeMarks, resA, resAll, resOne, Value.cells, hd1, t0, t1, t4, t5, ptrV, hX, wkCells, rowS2, rowS1, idxSA_ok, show (c : Int) < P.l.length by omega, show (i : Int) < (n : Int) by omega, hy, ints_get, va, storeB_int (show c < (v 0).length by omega) (hg 0 (by omega)), sx, sv, sy, sd, vs, hd, e1]
    refine wRt (b := true) hd1 hdp.2 ?_
    simp (disch := as_aux_lemma => first | omega | simp only [hDs] <;> omega | simp [isCell]) [hRs, takeMarks, resA, resAll, resOne, Value.cells, wrId (n := gi zs (i * 5 + 4) * fourthE true ((P.at true).dep c)) (by omega) (by omega), idxSA_ok, show (c : Int) < P.l.length by omega, sv, vs, storeB_int (show c < (v 3).length by omega) (hg 3 (by omega))]
    unfold stU
    rw [eA, eS]
    refine hf.same fun j hj => ?_
    simp only [tget_tset]
    repeat (rw [if_neg (by omega)])
  · simp (disch := as_aux_lemma => first | omega | simp only [hDs] <;> omega | simp [isCell]) [hRs, takeMarks, resA, resAll, resOne, Value.cells, hd1]
    have e : stU P zs i v = v := by
      unfold stU stA stS
      rw [hcc, if_neg hd1, if_neg hd1]
      simp only [upd_same]
    rw [e]
    refine h.same fun j hj => ?_
    simp only [tget_tset]
    repeat (rw [if_neg (by omega)])
theorem r52b (hP : POk (P.at false)) (hz : StartOk (P.at false) zs n) {cp : Nat} (hsl : sls = .slice (some ⟨y, 0, some 5⟩) n cp) (hi : i < n) (hcc : stC zs i = c) (hc : c < P.l.length) (hg : ∀ i, i < 9 → g ≤ r i) (h : S52 P X rd r y i c ro sls zs A0 v T A) :
    W AP KL g rdd p52b ⟨T, D, A⟩ (fun ex st => ex = .normal ∧ st.D = D ∧ S52 P X rd r y i c ro sls zs A0 (stD P zs i v) st.T st.A) := by
  have t0 := h.t0
  have t1 := h.t1.trans hsl
  have t4 := h.t4
  have t5 := h.t5
  have hy := h.gy
  have hW := h.w
  have hX := hW.hx
  have hd := hW.hd
  have va := hW.hv 1 (by omega)
  have vs := hW.hv 2 (by omega)
  have na : (v 1).length = P.l.length := hW.nv 1 (by omega)
  have ns : (v 2).length = P.l.length := hW.nv 2 (by omega)
  have hzl := hz.len
  have ht := hz.time i hi
  have hri := hz.rise i hi
  have sx : ∀ z, (A.set (r 1) z).get X = A.get X := fun z => get_set_ne (Hp.lt_of_get va) (fun e => (hW.nd 1 (by omega)).2 e.symm)
  have sv : ∀ z, (A.set (r 1) z).get (r 2) = A.get (r 2) := fun z => get_set_ne (Hp.lt_of_get va) (hW.ne 2 1 (by omega) (by omega) (by omega))
  have sy : ∀ z, (A.set (r 1) z).get y = A.get y := fun z => get_set_ne (Hp.lt_of_get va) (h.ne 1 (by omega))
  have sd : ∀ z, (A.set (r 1) z).get rd = A.get rd := fun z => get_set_ne (Hp.lt_of_get va) (fun e => (hW.nd 1 (by omega)).1 e.symm)
  obtain ⟨hl, e0, e1⟩ := Work.dep hc
  simp (disch := as_aux_lemma => first | omega | simp only [hDs] <;> omega | simp [isCell]) [hRs, takeMarks, resA, resAll, resOne, Value.cells, p52b, t0, t5]
  refine w71 hW hc ?_
  by_cases hd1 : 1 ≤ (P.at false).dep c
  · have hdp := hP.dep (c := c) hc
    have hfb := (fourth_bounds (b := false) hd1 hdp.2).2
    have hri : 0 ≤ gi zs (i * 5 + 3) ∧ gi zs (i * 5 + 3) ≤ 5000 := by omega
    have hm : 0 ≤ gi zs (i * 5 + 3) * fourthE false ((P.at false).dep c) ∧ gi zs (i * 5 + 3) * fourthE false ((P.at false).dep c) ≤ 5000 * 34040 := ⟨Int.mul_nonneg (by omega) (by omega), Int.mul_le_mul hri.2 hfb.2 (by omega) (by omega)⟩
    have eA : stA (P.at false) zs (v 1) i = (v 1).set c (min (gi (v 1) c) (gi zs (i * 5 + 2))) := by unfold stA; rw [hcc, if_pos hd1]; rfl
    have eS : stS (P.at false) zs (v 2) i = (v 2).set c (max (gi (v 2) c) (gi zs (i * 5 + 3) * fourthE false ((P.at false).dep c))) := by unfold stS; rw [hcc, if_pos hd1]; rfl
    have hst := h.put (T' := T) (j := 1) (by omega) (l := stA (P.at false) zs (v 1) i) (by rw [eA, List.length_set]; exact na) (fun _ _ => rfl)
    have hf := hst.put (T' := T) (j := 2) (by omega) (l := stS (P.at false) zs (v 2) i) (by rw [eS, List.length_set]; exact ns) (fun _ _ => rfl)
    rw [eA, eS] at hf
    simp (disch := as_aux_lemma => first | omega | simp only [hDs] <;> omega | simp [isCell]) [hRs, takeMarks, resA, resAll, resOne, Value.cells, hd1, t0, t1, t4, t5, ptrV, hX, wkCells, rowS2, rowS1, idxSA_ok, show (c : Int) < P.l.length by omega, show (i : Int) < (n : Int) by omega, hy, ints_get, va, storeB_int (show c < (v 1).length by omega) (hg 1 (by omega)), sx, sv, sy, sd, vs, hd, e0]
    refine wRt (b := false) hd1 hdp.2 ?_
    simp (disch := as_aux_lemma => first | omega | simp only [hDs] <;> omega | simp [isCell]) [hRs, takeMarks, resA, resAll, resOne, Value.cells, wrId (n := gi zs (i * 5 + 3) * fourthE false ((P.at false).dep c)) (by omega) (by omega), idxSA_ok, show (c : Int) < P.l.length by omega, sv, vs, storeB_int (show c < (v 2).length by omega) (hg 2 (by omega))]
    unfold stD
    rw [eA, eS]
    refine hf.same fun j hj => ?_
    simp only [tget_tset]
    repeat (rw [if_neg (by omega)])
  · simp (disch := as_aux_lemma => first | omega | simp only [hDs] <;> omega | simp [isCell]) [hRs, takeMarks, resA, resAll, resOne, Value.cells, hd1]
    have e : stD P zs i v = v := by
      unfold stD stA stS
      rw [hcc, if_neg hd1, if_neg hd1]
      simp only [upd_same]
    rw [e]
    refine h.same fun j hj => ?_
    simp only [tget_tset]
    repeat (rw [if_neg (by omega)])
end
end Go.Ab.Wave
namespace Go.Ab.Wave
open Go Go.Ab
theorem POk.of_at {P : Par} {b : Bool} (h : POk (P.at b)) : POk P := ⟨h.chk, h.sea, h.keep, h.land, h.loss, h.small⟩
def seed (P : Par) (zs : List Int) (v : Nat → List Int) : Nat → Nat → List Int
  | 0 => v
  | i + 1 => stD P zs i (stU P zs i (seed P zs v i))
structure Fresh (P : Par) (v : Nat → List Int) : Prop where
  f0 : v 0 = List.replicate P.l.length Never
  f1 : v 1 = List.replicate P.l.length Never
  f2 : v 2 = List.replicate P.l.length 0
  f3 : v 3 = List.replicate P.l.length 0
theorem seed_get {P : Par} {zs : List Int} {v : Nat → List Int} (h : Fresh P v) : ∀ i, seed P zs v i 0 = arr0 (P.at true) zs i ∧ seed P zs v i 1 = arr0 (P.at false) zs i ∧ seed P zs v i 2 = str0 (P.at false) zs i ∧ seed P zs v i 3 = str0 (P.at true) zs i ∧ ∀ j, 4 ≤ j → seed P zs v i j = v j
  | 0 => ⟨h.f0, h.f1, h.f2, h.f3, fun _ _ => rfl⟩
  | i + 1 => by
    obtain ⟨h0, h1, h2, h3, h4⟩ := seed_get (zs := zs) h i
    have eA : ∀ b, arr0 (P.at b) zs (i + 1) = stA (P.at b) zs (arr0 (P.at b) zs i) i := fun b => by unfold arr0; rw [List.range_succ, List.foldl_append]; rfl
    have eS : ∀ b, str0 (P.at b) zs (i + 1) = stS (P.at b) zs (str0 (P.at b) zs i) i := fun b => by unfold str0; rw [List.range_succ, List.foldl_append]; rfl
    rw [eA, eA, eS, eS, ← h0, ← h1, ← h2, ← h3]
    refine ⟨rfl, rfl, rfl, rfl, fun j hj => ?_⟩
    rw [← h4 j hj]
    show stD P zs i (stU P zs i (seed P zs v i)) j = _
    unfold stD stU upd
    rw [if_neg (by omega), if_neg (by omega), if_neg (by omega), if_neg (by omega)]
theorem st_pos {P : Par} {zs : List Int} {n : Nat} (hz : StartOk P zs n) : ∀ k, k ≤ n → ∀ c, c < P.l.length → 0 < gi (str0 P zs k) c → gi (arr0 P zs k) c < Never := by
  intro k
  induction k with
  | zero =>
    intro _ c hc h
    have : gi (str0 P zs 0) c = 0 := gi_replicate hc
    omega
  | succ k ih =>
    intro hk c hc h
    have e1 : arr0 P zs (k + 1) = stA P zs (arr0 P zs k) k := by unfold arr0; rw [List.range_succ, List.foldl_append]; rfl
    have e2 : str0 P zs (k + 1) = stS P zs (str0 P zs k) k := by unfold str0; rw [List.range_succ, List.foldl_append]; rfl
    have hl := (arr0_ok hz k (by omega)).1
    have hls : (str0 P zs k).length = P.l.length := by
      clear h ih e1 e2 hl
      induction k with
      | zero => simp [str0]
      | succ k ih2 =>
        have e : str0 P zs (k + 1) = stS P zs (str0 P zs k) k := by unfold str0; rw [List.range_succ, List.foldl_append]; rfl
        rw [e]
        unfold stS
        split
        · rw [List.length_set]; exact ih2 (by omega)
        · exact ih2 (by omega)
    have hcl : stC zs k < P.l.length := by have := hz.cell k (by omega); unfold stC; omega
    have ht := hz.time k (by omega)
    rw [e2] at h
    rw [e1]
    unfold stS at h
    unfold stA agE
    by_cases hd : 1 ≤ P.dep (stC zs k)
    · rw [if_pos hd] at h ⊢
      rw [gi_set (by omega)] at h ⊢
      by_cases e : c = stC zs k
      · rw [if_pos e]; unfold Never; split <;> omega
      · rw [if_neg e] at h ⊢
        exact ih (by omega) c hc h
    · rw [if_neg hd] at h ⊢
      exact ih (by omega) c hc h
theorem EndI.start {P : Par} {zs : List Int} {n : Nat} (hP : POk P) (hz : StartOk P zs n) : EndI P zs n (arr0 P zs n) (str0 P zs n) := by
  have a0 := arr0_ok hz n (Nat.le_refl _)
  have s0 := str0_ok hP hz n (Nat.le_refl _)
  exact ⟨a0.1, s0.1, fun c hc => (a0.2 c hc).1, s0.2, fun c hc => .init hc, fun c hc => .init hc, GA0 hz, st_pos hz n (Nat.le_refl _), fun _ _ => Int.le_refl _, fun _ _ => Int.le_refl _⟩
def RS (P : Par) (zs : List Int) (n : Nat) (v4 : Nat → List Int) : Rd where
  I v := EndI (P.at true) zs n (v 0) (v 3) ∧ EndI (P.at false) zs n (v 1) (v 2) ∧ ∀ j, 4 ≤ j → v j = v4 j
  pot v := potE (v 0) (v 3) + potE (v 1) (v 2)
  step := passR P
  fl a b v := flag4 v (passR P a b v) b
theorem passR_get {P : Par} {a b : Nat} {v : Nat → List Int} : passR P a b v 0 = (passA (P.at true) (v 0) (v 3) a b).1 ∧ passR P a b v 3 = (passA (P.at true) (v 0) (v 3) a b).2 ∧ passR P a b v 1 = (passA (P.at false) (v 1) (v 2) a b).1 ∧ passR P a b v 2 = (passA (P.at false) (v 1) (v 2) a b).2 ∧ ∀ j, 4 ≤ j → passR P a b v j = v j := by
  refine ⟨rfl, rfl, rfl, rfl, fun j hj => ?_⟩
  unfold passR passD passU upd
  rw [if_neg (by omega), if_neg (by omega), if_neg (by omega), if_neg (by omega)]
theorem RS_ok {P : Par} {zs : List Int} {n : Nat} {v4 : Nat → List Int} (hu : POk (P.at true)) (hl : POk (P.at false)) : RdOk (RS P zs n v4) P := by
  refine ⟨fun v a b hI ha hb => ?_, fun v a b hI ha hb hf => ?_, fun v a b hI ha hb hf => ?_⟩
  · obtain ⟨e0, e3, e1, e2, e4⟩ := passR_get (P := P) (a := a) (b := b) (v := v)
    show EndI _ _ _ (passR P a b v 0) (passR P a b v 3) ∧ EndI _ _ _ (passR P a b v 1) (passR P a b v 2) ∧ _
    rw [e0, e3, e1, e2]
    exact ⟨(hI.1.pass hu ha hb).1, (hI.2.1.pass hl ha hb).1, fun j hj => (e4 j hj).trans (hI.2.2 j hj)⟩
  · obtain ⟨e0, e3, e1, e2, e4⟩ := passR_get (P := P) (a := a) (b := b) (v := v)
    have hf' : flag4 v (passR P a b v) b = false := hf
    unfold flag4 at hf'
    simp only [Bool.not_eq_false', Bool.and_eq_true, decide_eq_true_eq] at hf'
    obtain ⟨f0, f1, f2, f3⟩ := hf'
    rw [e0] at f0
    rw [e1] at f1
    rw [e2] at f2
    rw [e3] at f3
    have p := (hI.1.pass hu ha hb).2.2.1 f0.symm f3.symm
    have q := (hI.2.1.pass hl ha hb).2.2.1 f1.symm f2.symm
    show passR P a b v = v
    funext j
    by_cases j0 : j = 0
    · rw [j0, e0, p]
    · by_cases j1 : j = 1
      · rw [j1, e1, q]
      · by_cases j2 : j = 2
        · rw [j2, e2, q]
        · by_cases j3 : j = 3
          · rw [j3, e3, p]
          · exact e4 j (by omega)
  · obtain ⟨e0, e3, e1, e2, e4⟩ := passR_get (P := P) (a := a) (b := b) (v := v)
    have hf' : flag4 v (passR P a b v) b = true := hf
    have p := (hI.1.pass hu ha hb).2
    have q := (hI.2.1.pass hl ha hb).2
    show potE (passR P a b v 0) (passR P a b v 3) + potE (passR P a b v 1) (passR P a b v 2) < potE (v 0) (v 3) + potE (v 1) (v 2)
    rw [e0, e3, e1, e2]
    by_cases c1 : gi (passA (P.at true) (v 0) (v 3) a b).1 b = gi (v 0) b ∧ gi (passA (P.at true) (v 0) (v 3) a b).2 b = gi (v 3) b
    · by_cases c2 : gi (passA (P.at false) (v 1) (v 2) a b).1 b = gi (v 1) b ∧ gi (passA (P.at false) (v 1) (v 2) a b).2 b = gi (v 2) b
      · unfold flag4 at hf'
        rw [e0, e1, e2, e3, c1.1, c1.2, c2.1, c2.2] at hf'
        simp at hf'
      · have := q.2.2 c2
        have := p.1
        omega
    · have := p.2.2 c1
      have := q.1
      omega
section
variable {g : Nat} {A : Hp} {V : Value → Hp → Prop} {P : Par} {X rd : Nat} {r : Nat → Nat} {v : Nat → List Int} {n : Nat} {sls : Value} {zs : List Int}
theorem loop52s {A0 : Hp} {D : List Nat} {rdd : Option Nat} {Q : Ex → St → Prop} (hu : POk (P.at true)) (hl : POk (P.at false)) (hzu : StartOk (P.at true) zs n) (hzl : StartOk (P.at false) zs n) (hn : n < 1000000) (hr : RdS A0 5 n (ints zs) sls) (hne : ∀ x o k m c j, j < 9 → sls = .slice (some ⟨x, o, k⟩) m c → x ≠ r j) (hg : ∀ i, i < 9 → g ≤ r i)
    (hQ : ∀ T' A', Keep (WK r) A0 A' → Work A' P X rd r (seed P zs v n) → tget T' 0 = ptrV X → Q (.exit 0) ⟨T', D, A'⟩) :
    ∀ (k i : Nat) (T : List Value) (A : Hp), i + k = n → Keep (WK r) A0 A → Work A P X rd r (seed P zs v i) → tget T 0 = ptrV X → tget T 1 = sls → tget T 4 = .int .i64 i → W AP KL g rdd (.loop body52s) ⟨T, D, A⟩ Q := by
  have hlen := hr.len
  intro k
  induction k with
  | zero =>
    intro i T A hi hk hW t0 t1 t4
    have e : i = n := by omega
    rw [W_loop]
    simp (disch := as_aux_lemma => first | omega | simp only [hDs] <;> omega | simp [isCell]) [hRs, takeMarks, resA, resAll, resOne, Value.cells, body52s, t1, t4, hlen, show ¬ (i : Int) < (n : Int) by omega]
    rw [e] at hW
    exact hQ _ A hk hW (by simp [t0])
  | succ k ih =>
    intro i T A hi hk hW t0 t1 t4
    obtain ⟨y, cp, ro, hsl, hy0⟩ := hr.at (i := i) (by omega)
    have hy : A.get y = some (.cells (ints zs) ro) := by rw [hk.2 y (Hp.lt_of_get hy0) (by rintro ⟨j, hj, e⟩; exact hne _ _ _ _ _ j hj hsl e)]; exact hy0
    have hzl5 := hzu.len
    have hcell := hzu.cell i (by omega)
    have hc : stC zs i < P.l.length := by have h2 : gi zs (i * 5) < (P.l.length : Int) := hcell.2; unfold stC; omega
    have hcc : gi zs (i * 5) = (stC zs i : Int) := by unfold stC; omega
    rw [W_loop]
    simp (disch := as_aux_lemma => first | omega | simp only [hDs] <;> omega | simp [isCell]) [hRs, takeMarks, resA, resAll, resOne, Value.cells, body52s, t1, t4, hlen, show (i : Int) < (n : Int) by omega, hsl, idxSA_ok, hy, ints_get, hcc]
    refine W_mono (r52a (y := y) (i := i) (c := stC zs i) (n := n) (ro := ro) (cp := cp) (sls := sls) (zs := zs) (A0 := A0) hu hzu hsl (by omega) rfl hc hg ⟨hW, hy, fun j hj => hne _ _ _ _ _ j hj hsl, hk, by simp [t0], by simp [t1, hsl], by simp [t4], by simp⟩) ?_
    rintro _ ⟨T1, D1, A1⟩ ⟨rfl, rfl, h1⟩
    simp (disch := as_aux_lemma => first | omega | simp only [hDs] <;> omega | simp [isCell]) [hRs, takeMarks, resA, resAll, resOne, Value.cells]
    refine W_mono (r52b (n := n) (cp := cp) hl hzl hsl (by omega) rfl hc hg h1) ?_
    rintro _ ⟨T2, D2, A2⟩ ⟨rfl, rfl, h2⟩
    have p4 : tget T2 4 = .int .i64 i := h2.t4
    have p0 : tget T2 0 = ptrV X := h2.t0
    have p1 : tget T2 1 = sls := h2.t1
    simp (disch := as_aux_lemma => first | omega | simp only [hDs] <;> omega | simp [isCell]) [hRs, takeMarks, resA, resAll, resOne, Value.cells, p4]
    refine ih (i + 1) _ A2 (by omega) h2.k h2.w ?_ ?_ ?_
    · simp [p0]
    · simp [p1]
    · simp [wrId (n := (i : Int) + 1) (by omega) (by omega)]
theorem w52 (hu : POk (P.at true)) (hl : POk (P.at false)) (hzu : StartOk (P.at true) zs n) (hzl : StartOk (P.at false) zs n) (hn : n < 1000000) (hr : RdS A 5 n (ints zs) sls) (hne : ∀ x o k m c j, j < 9 → sls = .slice (some ⟨x, o, k⟩) m c → x ≠ r j) (hg : ∀ i, i < 9 → g ≤ r i) (hgA : g ≤ A.n) (hf : Fresh P v) (hW : Work A P X rd r v)
    (hQ : ∀ A' v', Keep (WK r) A A' → Work A' P X rd r v' → v' 0 = arrF (P.at true) zs n → v' 3 = strF (P.at true) zs n → v' 1 = arrF (P.at false) zs n → v' 2 = strF (P.at false) zs n → (∀ j, 4 ≤ j → v' j = v j) → V (.tuple ⟨[]⟩) A') :
    WF AP KL g 52 [ptrV X, sls] A V := by
  have hP := hu.of_at
  have hR := RS_ok (P := P) (zs := zs) (n := n) (v4 := v) hu hl
  rw [WF_body rfl (show AP 52 = some F52 from rfl)]
  simp (disch := as_aux_lemma => first | omega | simp only [hDs] <;> omega | simp [isCell]) [hRs, takeMarks, resA, resAll, resOne, Value.cells]
  refine loop52s (v := v) (A0 := A) hu hl hzu hzl hn hr hne hg (fun T' A1 k1 hW1 p0 => ?_) n 0 _ A (by omega) (Keep.refl _ _) hW (by simp) (by simp) (by simp)
  simp (disch := as_aux_lemma => first | omega | simp only [hDs] <;> omega | simp [isCell]) [hRs, takeMarks, resA, resAll, resOne, Value.cells]
  obtain ⟨s0, s1, s2, s3, s4⟩ := seed_get (zs := zs) hf n
  have n1 := k1.1
  refine loop52o (A0 := A1) (X := X) (rd := rd) (r := r) (R := RS P zs n v) hP hR (fun B v a b V' hB hI ha hb hq => ?_) (by omega) (fun T2 A2 v2 k2 hW2 hI hs => ?_) ((RS P zs n v).pot (seed P zs v n) + 1) _ A1 (seed P zs v n) true (Keep.refl _ _) hW1 ⟨?_, ?_, s4⟩ (fun _ => Nat.lt_succ_self _) (fun e => absurd e (by decide)) ?_ ?_
  · exact w74 hu hl hB ⟨fun c hc => hI.1.a c hc, fun c hc => hI.2.1.a c hc, fun c hc => hI.2.1.s c hc, fun c hc => hI.1.s c hc⟩ ha (nb_lt hl hb) hg hq
  · simp (disch := as_aux_lemma => first | omega | simp only [hDs] <;> omega | simp [isCell]) [hRs, takeMarks, resA, resAll, resOne, Value.cells]
    have hq : ∀ a b, a < P.l.length → b ∈ nbP P a → passR P a b v2 = v2 := fun a b ha hb => hs b (nb_lt hP hb) a ((refN_mem hP (nb_lt hP hb)).2 ⟨ha, hb⟩)
    have fu := hI.1.fin hu hzu fun a b ha hb => by
      obtain ⟨e0, e3, e1, e2, e4⟩ := passR_get (P := P) (a := a) (b := b) (v := v2)
      rw [hq a b ha hb] at e0 e3
      exact Prod.ext e0.symm e3.symm
    have fl := hI.2.1.fin hl hzl fun a b ha hb => by
      obtain ⟨e0, e3, e1, e2, e4⟩ := passR_get (P := P) (a := a) (b := b) (v := v2)
      rw [hq a b ha hb] at e1 e2
      exact Prod.ext e1.symm e2.symm
    exact hQ A2 v2 (k1.trans k2) hW2 fu.1 fu.2 fl.1 fl.2 hI.2.2
  · rw [s0, s3]; exact EndI.start hu hzu
  · rw [s1, s2]; exact EndI.start hl hzl
  · simp [p0]
  · simp
end
end Go.Ab.Wave
namespace Go.Ab.Wave
open Go Go.Ab
def p77a : ACode := (.seq
 (.ops [
oM 59 0,
oM 60 2,
oA 61 71 [.t 59, .t 60] false,
oP 62 (.not (.t 61)),
oM 63 62,
oN 64 63 true 0,
oQ 65 63 true (.nilCheck (.t 64)),
oQ 66 63 true (.fieldAddr (.t 65) 17),
oQ 67 63 true (.load (.t 66) none),
oN 68 63 true 1,
oQ 69 63 true (.idxS (.t 67) (.t 68) 1),
oQ 70 63 true (.load (.t 69) none),
oQ 71 63 true (.bin .neq (.t 70) (oK (-1099511627776))),
oP 72 (.pick (.t 63) (.t 71) (.k (.bool false))),
oM 73 72,
oN 74 73 true 8,
oN 75 73 true 0,
oQ 76 73 true (.nilCheck (.t 75)),
oQ 77 73 true (.fieldAddr (.t 76) 0),
oQ 78 73 true (.fieldAddr (.t 77) 3),
oQ 79 73 true (.load (.t 78) none),
oN 80 73 true 2,
oQ 81 73 true (.idxS (.t 79) (.t 80) 2),
oQ 82 73 true (.fieldAddr (.t 81) 0),
oQ 83 73 true (.load (.t 82) none),
oQ 84 73 true (.bin .gtr (.t 74) (.t 83)),
oP 85 (.pick (.t 73) (.t 84) (.k (.bool false)))])
 (.cond (.t 85)
 (.seq
 (.ops [
oM 86 0,
oP 87 (.nilCheck (.t 86)),
oF 88 87 18,
oL 89 88,
oM 90 2,
oM 91 0,
oP 92 (.nilCheck (.t 91)),
oF 93 92 18,
oL 94 93,
oM 95 2,
oI 96 94 95 1,
oL 97 96,
oM 98 8,
oP 99 (.max [.t 97, .t 98]),
oI 100 89 90 1,
oT 100 99 1])
 (.seq
 (.ops [
oM 101 0,
oP 102 (.nilCheck (.t 101)),
oF 103 102 17,
oL 104 103,
oM 105 2,
oM 106 0,
oP 107 (.nilCheck (.t 106)),
oF 108 107 17,
oL 109 108,
oM 110 2,
oI 111 109 110 1,
oL 112 111,
oM 113 8,
oP 114 (.max [.t 112, .t 113]),
oI 115 104 105 1,
oT 115 114 1])
 (.ops [
oM 116 0,
oP 117 (.nilCheck (.t 116)),
oF 118 117 20,
oL 119 118,
oM 120 2,
oM 121 0,
oP 122 (.nilCheck (.t 121)),
oF 123 122 20,
oL 124 123,
oM 125 2,
oI 126 124 125 1,
oL 127 126,
oM 128 0,
oP 129 (.nilCheck (.t 128)),
oF 130 129 20,
oL 131 130,
oM 132 1,
oI 133 131 132 1,
oL 134 133,
oM 135 0,
oP 136 (.nilCheck (.t 135)),
oF 137 136 6,
oF 138 137 2,
oF 139 138 0,
oL 140 139,
oM 141 0,
oP 142 (.nilCheck (.t 141)),
oF 143 142 0,
oF 144 143 2,
oL 145 144,
oB 146 .mul 140 145,
oB 147 .add 134 146,
oP 148 (.min [.t 127, .t 147]),
oI 149 119 120 1,
oT 149 148 1])))
 .skip))
def p77b : ACode := (.seq
 (.ops [
oM 164 0,
oM 165 2,
oA 166 79 [.t 164, .t 165] false,
oM 167 166,
oN 168 167 true 0,
oQ 169 167 true (.nilCheck (.t 168)),
oQ 170 167 true (.fieldAddr (.t 169) 19),
oQ 171 167 true (.load (.t 170) none),
oN 172 167 true 1,
oQ 173 167 true (.idxS (.t 171) (.t 172) 1),
oQ 174 167 true (.load (.t 173) none),
oQ 175 167 true (.bin .neq (.t 174) (oK (-1099511627776))),
oP 176 (.pick (.t 167) (.t 175) (.k (.bool false))),
oM 177 176,
oN 178 177 true 8,
oN 179 177 true 0,
oQ 180 177 true (.nilCheck (.t 179)),
oQ 181 177 true (.fieldAddr (.t 180) 0),
oQ 182 177 true (.fieldAddr (.t 181) 3),
oQ 183 177 true (.load (.t 182) none),
oN 184 177 true 2,
oQ 185 177 true (.idxS (.t 183) (.t 184) 2),
oQ 186 177 true (.fieldAddr (.t 185) 1),
oQ 187 177 true (.load (.t 186) none),
oQ 188 177 true (.bin .gtr (.t 178) (.t 187)),
oP 189 (.pick (.t 177) (.t 188) (.k (.bool false)))])
 (.cond (.t 189)
 (.seq
 (.ops [
oM 190 0,
oP 191 (.nilCheck (.t 190)),
oF 192 191 19,
oL 193 192,
oM 194 2,
oM 195 0,
oP 196 (.nilCheck (.t 195)),
oF 197 196 19,
oL 198 197,
oM 199 2,
oI 200 198 199 1,
oL 201 200,
oM 202 8,
oP 203 (.max [.t 201, .t 202]),
oI 204 193 194 1,
oT 204 203 1])
 (.ops [
oM 205 0,
oP 206 (.nilCheck (.t 205)),
oF 207 206 21,
oL 208 207,
oM 209 2,
oM 210 0,
oP 211 (.nilCheck (.t 210)),
oF 212 211 21,
oL 213 212,
oM 214 2,
oI 215 213 214 1,
oL 216 215,
oM 217 0,
oP 218 (.nilCheck (.t 217)),
oF 219 218 21,
oL 220 219,
oM 221 1,
oI 222 220 221 1,
oL 223 222,
oM 224 0,
oP 225 (.nilCheck (.t 224)),
oF 226 225 6,
oF 227 226 2,
oF 228 227 1,
oL 229 228,
oM 230 0,
oP 231 (.nilCheck (.t 230)),
oF 232 231 0,
oF 233 232 2,
oL 234 233,
oB 235 .mul 229 234,
oB 236 .add 223 235,
oP 237 (.min [.t 216, .t 236]),
oI 238 208 209 1,
oT 238 237 1]))
 .skip))
def h77 : ACode := .seq (.ops [
oP 6 (.move (.k (.bool false)))]) (.seq (.ops [
oM 9 0,
oP 10 (.nilCheck (.t 9)),
oF 11 10 17,
oL 12 11,
oM 13 2,
oI 14 12 13 1,
oL 15 14,
oM 16 0,
oP 17 (.nilCheck (.t 16)),
oF 18 17 18,
oL 19 18,
oM 20 2,
oI 21 19 20 1,
oL 22 21,
oM 23 0,
oP 24 (.nilCheck (.t 23)),
oF 25 24 19,
oL 26 25,
oM 27 2,
oI 28 26 27 1,
oL 29 28,
oM 30 0,
oP 31 (.nilCheck (.t 30)),
oF 32 31 20,
oL 33 32,
oM 34 2,
oI 35 33 34 1,
oL 36 35,
oM 37 0,
oP 38 (.nilCheck (.t 37)),
oF 39 38 21,
oL 40 39,
oM 41 2,
oI 42 40 41 1,
oL 43 42,
oP 44 (.build [.int .i64 0, .int .i64 0, .int .i64 0, .int .i64 0, .int .i64 0] [(0, 1, .t 15), (1, 1, .t 22), (2, 1, .t 29), (3, 1, .t 36), (4, 1, .t 43)]),
oP 7 (.alloc [.int .i64 0, .int .i64 0, .int .i64 0, .int .i64 0, .int .i64 0]),
oT 7 44 5]) (.seq (.ops [
oM 45 0,
oP 46 (.nilCheck (.t 45)),
oF 47 46 17,
oL 48 47,
oM 49 1,
oI 50 48 49 1,
oL 51 50,
oM 52 0,
oP 53 (.nilCheck (.t 52)),
oF 54 53 6,
oF 55 54 4,
oF 56 55 0,
oL 57 56,
oB 58 .sub 51 57,
oM 8 58]) (.seq p77a (.seq (.ops [
oM 150 0,
oP 151 (.nilCheck (.t 150)),
oF 152 151 19,
oL 153 152,
oM 154 1,
oI 155 153 154 1,
oL 156 155,
oM 157 0,
oP 158 (.nilCheck (.t 157)),
oF 159 158 6,
oF 160 159 4,
oF 161 160 1,
oL 162 161,
oB 163 .sub 156 162,
oM 8 163]) (.seq p77b (.seq
 (.ops [
oD 239 7 5,
oM 240 0,
oP 241 (.nilCheck (.t 240)),
oF 242 241 17,
oL 243 242,
oM 244 2,
oI 245 243 244 1,
oL 246 245,
oM 247 0,
oP 248 (.nilCheck (.t 247)),
oF 249 248 18,
oL 250 249,
oM 251 2,
oI 252 250 251 1,
oL 253 252,
oM 254 0,
oP 255 (.nilCheck (.t 254)),
oF 256 255 19,
oL 257 256,
oM 258 2,
oI 259 257 258 1,
oL 260 259,
oM 261 0,
oP 262 (.nilCheck (.t 261)),
oF 263 262 20,
oL 264 263,
oM 265 2,
oI 266 264 265 1,
oL 267 266,
oM 268 0,
oP 269 (.nilCheck (.t 268)),
oF 270 269 21,
oL 271 270,
oM 272 2,
oI 273 271 272 1,
oL 274 273,
oP 275 (.build [.int .i64 0, .int .i64 0, .int .i64 0, .int .i64 0, .int .i64 0] [(0, 1, .t 246), (1, 1, .t 253), (2, 1, .t 260), (3, 1, .t 267), (4, 1, .t 274)]),
oP 276 (.eqv true [false, false, false, false, false] (.t 239) (.t 275)),
oM 6 276])
 .ret))))))
theorem AP77 : AP 77 = some (.fn 277 [.tmp 6] h77) := rfl
def landE (P : Par) : Int := agE P.up P.l0 P.l1 * P.s
def spillA (P : Par) (vu vf : List Int) (a b : Nat) : List Int × List Int :=
  if (P.spU a b (gi vu a)).2 = true then (vu.set b (max (gi vu b) (P.spU a b (gi vu a)).1), vf.set b (min (gi vf b) (gi vf a + landE P))) else (vu, vf)
def spillL (P : Par) (vu la : List Int) (a b : Nat) : List Int := if (P.spU a b (gi vu a)).2 = true then la.set b (max (gi la b) (P.spU a b (gi vu a)).1) else la
def spillU (P : Par) (a b : Nat) (v : Nat → List Int) : Nat → List Int := upd (upd (upd v 5 (spillL (P.at true) (v 4) (v 5) a b)) 4 (spillA (P.at true) (v 4) (v 7) a b).1) 7 (spillA (P.at true) (v 4) (v 7) a b).2
def spillD (P : Par) (a b : Nat) (v : Nat → List Int) : Nat → List Int := upd (upd v 6 (spillA (P.at false) (v 6) (v 8) a b).1) 8 (spillA (P.at false) (v 6) (v 8) a b).2
structure VOk2 (P : Par) (v : Nat → List Int) : Prop where
  a4 : ∀ c, c < P.l.length → SurfV (gi (v 4) c)
  a6 : ∀ c, c < P.l.length → SurfV (gi (v 6) c)
  a7 : ∀ c, c < P.l.length → 0 ≤ gi (v 7) c ∧ gi (v 7) c ≤ Never
  a8 : ∀ c, c < P.l.length → 0 ≤ gi (v 8) c ∧ gi (v 8) c ≤ Never
theorem surfB {v : Int} (h : SurfV v) : -1099511627776 ≤ v ∧ v ≤ 200020000 := by
  rcases h with h | h <;> (try unfold Never at h) <;> omega
section
variable {g : Nat} {A : Hp} {V : Value → Hp → Prop} {P : Par} {X rd : Nat} {r : Nat → Nat} {v : Nat → List Int} {a b B7 : Nat} {bc : List Value} {A0 : Hp} {T : List Value} {D : List Nat} {rdd : Option Nat}
theorem r77a (hP : POk (P.at true)) (hO : VOk2 P v) (ha : a < P.l.length) (hb : b < P.l.length) (hg : ∀ i, i < 9 → g ≤ r i) (h : S74 P X rd r a b B7 bc A0 v T A) (t8 : tget T 8 = .int .i64 (gi (v 4) a - P.o0)) :
    W AP KL g rdd p77a ⟨T, D, A⟩ (fun ex st => ex = .normal ∧ st.D = D ∧ S74 P X rd r a b B7 bc A0 (spillU P a b v) st.T st.A) := by
  have t0 := h.t0
  have t1 := h.t1
  have t2 := h.t2
  have hW := h.w
  have hX := hW.hx
  have vu := hW.hv 4 (by omega)
  have vf := hW.hv 7 (by omega)
  have nu : (v 4).length = P.l.length := hW.nv 4 (by omega)
  have nf : (v 7).length = P.l.length := hW.nv 7 (by omega)
  have ou := surfB (hO.a4 a ha)
  have fa := hO.a7 a ha
  have ob := surfB (hO.a4 b hb)
  have fb := hO.a7 b hb
  have hlo := hP.loss
  have hlo' : 0 ≤ P.o0 ∧ P.o0 ≤ P.o1 ∧ P.o1 ≤ 1000 := hlo
  have hle := hP.landE
  have hle' : 0 ≤ P.l0 * P.s ∧ P.l0 * P.s ≤ 1000000000 := hle
  obtain ⟨y, cap, ro, hsl, hy⟩ := ground_two (P := P) hW.hg hb
  have hgl : (flat2 P.l).length = P.l.length * 2 := flat2_length _
  have eg0 : gi (flat2 P.l) (b * 2) = P.glo b := rfl
  have eg1 : gi (flat2 P.l) (b * 2 + 1) = P.ghi b := rfl
  have eS : (P.at true).spU a b (gi (v 4) a) = (gi (v 4) a - P.o0, (!decide (gi (v 4) a = -Never)) && (decide ((P.at true).lst b ≤ 0) && decide (P.glo b < gi (v 4) a - P.o0))) := rfl
  have el : (P.at true).lst b = (P.at false).dep b := rfl
  have hNo : ((P.at true).spU a b (gi (v 4) a)).2 = false → spillU P a b v = v := by
    intro e
    have h1 : spillA (P.at true) (v 4) (v 7) a b = (v 4, v 7) := by unfold spillA; rw [e]; rfl
    unfold spillU
    rw [h1]
    have h2 : spillL (P.at true) (v 4) (v 5) a b = v 5 := by unfold spillL; rw [e]; rfl
    rw [h2]
    simp only [upd_same]
  simp (disch := as_aux_lemma => first | omega | simp only [hDs] <;> omega | simp [isCell]) [hRs, takeMarks, resA, resAll, resOne, Value.cells, p77a, t0, t1, t2]
  refine w71 hW hb ?_
  by_cases c1 : ¬ 1 ≤ (P.at false).dep b
  · by_cases c2 : gi (v 4) a = -1099511627776
    · simp (disch := as_aux_lemma => first | omega | simp only [hDs] <;> omega | simp [isCell]) [hRs, takeMarks, resA, resAll, resOne, Value.cells, c1, t0, t1, t2, ptrV, hX, wkCells, rowS2, rowS1, idxSA_ok, show (a : Int) < P.l.length by omega, vu, ints_get, c2]
      rw [hNo (by rw [eS]; simp [c2, Never])]
      refine h.same fun j hj => ?_
      simp only [tget_tset]
      repeat (rw [if_neg (by omega)])
    · by_cases c3 : P.glo b < gi (v 4) a - P.o0
      · have hyes : ((P.at true).spU a b (gi (v 4) a)).2 = true := by rw [eS]; simp [c2, c3, Never, el]; omega
        have e1 : ((P.at true).spU a b (gi (v 4) a)).1 = gi (v 4) a - P.o0 := rfl
        have eL : landE (P.at true) = P.l0 * P.s := rfl
        have hA : spillA (P.at true) (v 4) (v 7) a b = ((v 4).set b (max (gi (v 4) b) (gi (v 4) a - P.o0)), (v 7).set b (min (gi (v 7) b) (gi (v 7) a + P.l0 * P.s))) := by unfold spillA; rw [if_pos hyes, e1, eL]
        have hB : spillL (P.at true) (v 4) (v 5) a b = (v 5).set b (max (gi (v 5) b) (gi (v 4) a - P.o0)) := by unfold spillL; rw [if_pos hyes, e1]
        have vl := hW.hv 5 (by omega)
        have nl : (v 5).length = P.l.length := hW.nv 5 (by omega)
        have p1 := h.put (T' := T) (i := 5) (by omega) (l := (v 5).set b (max (gi (v 5) b) (gi (v 4) a - P.o0))) (by rw [List.length_set]; exact nl) (fun _ _ => rfl)
        have p2 := p1.put (T' := T) (i := 4) (by omega) (l := (v 4).set b (max (gi (v 4) b) (gi (v 4) a - P.o0))) (by rw [List.length_set]; exact nu) (fun _ _ => rfl)
        have p3 := p2.put (T' := T) (i := 7) (by omega) (l := (v 7).set b (min (gi (v 7) b) (gi (v 7) a + P.l0 * P.s))) (by rw [List.length_set]; exact nf) (fun _ _ => rfl)
        have q1 := Hp.lt_of_get vl
        have q2 := Hp.lt_of_get vu
        have n45 := hW.ne 4 5 (by omega) (by omega) (by omega)
        have n75 := hW.ne 7 5 (by omega) (by omega) (by omega)
        have n74 := hW.ne 7 4 (by omega) (by omega) (by omega)
        have x1 := (hW.nd 5 (by omega)).2
        have x2 := (hW.nd 4 (by omega)).2
        have s1 : ∀ z, (A.set (r 5) z).get X = A.get X := fun z => get_set_ne q1 (fun e => x1 e.symm)
        have s2 : ∀ z, (A.set (r 5) z).get (r 4) = A.get (r 4) := fun z => get_set_ne q1 n45
        have s3 : ∀ z z', ((A.set (r 5) z).set (r 4) z').get X = A.get X := fun z z' => by rw [get_set_ne (show r 4 < (A.set (r 5) z).n from q2) (fun e => x2 e.symm)]; exact s1 z
        have s4 : ∀ z z', ((A.set (r 5) z).set (r 4) z').get (r 7) = A.get (r 7) := fun z z' => by rw [get_set_ne (show r 4 < (A.set (r 5) z).n from q2) n74, get_set_ne q1 n75]
        simp (disch := as_aux_lemma => first | omega | simp only [hDs] <;> omega | simp [isCell]) [hRs, takeMarks, resA, resAll, resOne, Value.cells, c1, t0, t1, t2, t8, ptrV, hX, wkCells, rowS2, rowS1, idxSA_ok, show (a : Int) < P.l.length by omega, show (b : Int) < P.l.length by omega, vu, vl, vf, ints_get, c2, hsl, hy, eg0, eg1, c3, storeB_int (show b < (v 5).length by omega) (hg 5 (by omega)), s1, s2, storeB_int (show b < (v 4).length by omega) (hg 4 (by omega)), s3, s4, wrId (n := P.l0 * P.s) (by omega) (by omega), wrId (n := gi (v 7) a + P.l0 * P.s) (by unfold Never at fa; omega) (by unfold Never at fa; omega), storeB_int (show b < (v 7).length by omega) (hg 7 (by omega))]
        unfold spillU
        rw [hA, hB]
        refine p3.same fun j hj => ?_
        simp only [tget_tset]
        repeat (rw [if_neg (by omega)])
      · simp (disch := as_aux_lemma => first | omega | simp only [hDs] <;> omega | simp [isCell]) [hRs, takeMarks, resA, resAll, resOne, Value.cells, c1, t0, t1, t2, t8, ptrV, hX, wkCells, rowS2, rowS1, idxSA_ok, show (a : Int) < P.l.length by omega, show (b : Int) < P.l.length by omega, vu, ints_get, c2, hsl, hy, eg0, eg1, c3]
        rw [hNo (by rw [eS]; simp [c3])]
        refine h.same fun j hj => ?_
        simp only [tget_tset]
        repeat (rw [if_neg (by omega)])
  · have c1 : 1 ≤ (P.at false).dep b := by omega
    simp (disch := as_aux_lemma => first | omega | simp only [hDs] <;> omega | simp [isCell]) [hRs, takeMarks, resA, resAll, resOne, Value.cells, c1]
    rw [hNo (by rw [eS]; have : ¬ (P.at true).lst b ≤ 0 := by rw [el]; omega
                simp [this])]
    refine h.same fun j hj => ?_
    simp only [tget_tset]
    repeat (rw [if_neg (by omega)])
theorem r77b (hP : POk (P.at false)) (hO : VOk2 P v) (ha : a < P.l.length) (hb : b < P.l.length) (hg : ∀ i, i < 9 → g ≤ r i) (h : S74 P X rd r a b B7 bc A0 v T A) (t8 : tget T 8 = .int .i64 (gi (v 6) a - P.o1)) :
    W AP KL g rdd p77b ⟨T, D, A⟩ (fun ex st => ex = .normal ∧ st.D = D ∧ S74 P X rd r a b B7 bc A0 (spillD P a b v) st.T st.A) := by
  have t0 := h.t0
  have t1 := h.t1
  have t2 := h.t2
  have hW := h.w
  have hX := hW.hx
  have vu := hW.hv 6 (by omega)
  have vf := hW.hv 8 (by omega)
  have nu : (v 6).length = P.l.length := hW.nv 6 (by omega)
  have nf : (v 8).length = P.l.length := hW.nv 8 (by omega)
  have ou := surfB (hO.a6 a ha)
  have fa := hO.a8 a ha
  have ob := surfB (hO.a6 b hb)
  have fb := hO.a8 b hb
  have hlo := hP.loss
  have hlo' : 0 ≤ P.o0 ∧ P.o0 ≤ P.o1 ∧ P.o1 ≤ 1000 := hlo
  have hle := hP.landE
  have hle' : 0 ≤ P.l1 * P.s ∧ P.l1 * P.s ≤ 1000000000 := hle
  obtain ⟨y, cap, ro, hsl, hy⟩ := ground_two (P := P) hW.hg hb
  have hgl : (flat2 P.l).length = P.l.length * 2 := flat2_length _
  have eg0 : gi (flat2 P.l) (b * 2) = P.glo b := rfl
  have eg1 : gi (flat2 P.l) (b * 2 + 1) = P.ghi b := rfl
  have eS : (P.at false).spU a b (gi (v 6) a) = (gi (v 6) a - P.o1, (!decide (gi (v 6) a = -Never)) && (decide ((P.at false).lst b ≤ 0) && decide (P.ghi b < gi (v 6) a - P.o1))) := rfl
  have el : (P.at false).lst b = (P.at true).dep b := rfl
  have hNo : ((P.at false).spU a b (gi (v 6) a)).2 = false → spillD P a b v = v := by
    intro e
    have h1 : spillA (P.at false) (v 6) (v 8) a b = (v 6, v 8) := by unfold spillA; rw [e]; rfl
    unfold spillD
    rw [h1]
    simp only [upd_same]
  simp (disch := as_aux_lemma => first | omega | simp only [hDs] <;> omega | simp [isCell]) [hRs, takeMarks, resA, resAll, resOne, Value.cells, p77b, t0, t1, t2]
  refine w79 hW hb ?_
  by_cases c1 : (P.at true).dep b ≤ 0
  · by_cases c2 : gi (v 6) a = -1099511627776
    · simp (disch := as_aux_lemma => first | omega | simp only [hDs] <;> omega | simp [isCell]) [hRs, takeMarks, resA, resAll, resOne, Value.cells, c1, t0, t1, t2, ptrV, hX, wkCells, rowS2, rowS1, idxSA_ok, show (a : Int) < P.l.length by omega, vu, ints_get, c2]
      rw [hNo (by rw [eS]; simp [c2, Never])]
      refine h.same fun j hj => ?_
      simp only [tget_tset]
      repeat (rw [if_neg (by omega)])
    · by_cases c3 : P.ghi b < gi (v 6) a - P.o1
      · have hyes : ((P.at false).spU a b (gi (v 6) a)).2 = true := by rw [eS]; simp [c2, c3, Never, el]; omega
        have e1 : ((P.at false).spU a b (gi (v 6) a)).1 = gi (v 6) a - P.o1 := rfl
        have eL : landE (P.at false) = P.l1 * P.s := rfl
        have hA : spillA (P.at false) (v 6) (v 8) a b = ((v 6).set b (max (gi (v 6) b) (gi (v 6) a - P.o1)), (v 8).set b (min (gi (v 8) b) (gi (v 8) a + P.l1 * P.s))) := by unfold spillA; rw [if_pos hyes, e1, eL]
        have p2 := h.put (T' := T) (i := 6) (by omega) (l := (v 6).set b (max (gi (v 6) b) (gi (v 6) a - P.o1))) (by rw [List.length_set]; exact nu) (fun _ _ => rfl)
        have p3 := p2.put (T' := T) (i := 8) (by omega) (l := (v 8).set b (min (gi (v 8) b) (gi (v 8) a + P.l1 * P.s))) (by rw [List.length_set]; exact nf) (fun _ _ => rfl)
        have q2 := Hp.lt_of_get vu
        have n74 := hW.ne 8 6 (by omega) (by omega) (by omega)
        have x2 := (hW.nd 6 (by omega)).2
        have s3 : ∀ z, (A.set (r 6) z).get X = A.get X := fun z => get_set_ne q2 (fun e => x2 e.symm)
        have s4 : ∀ z, (A.set (r 6) z).get (r 8) = A.get (r 8) := fun z => get_set_ne q2 n74
        simp (disch := as_aux_lemma => first | omega | simp only [hDs] <;> omega | simp [isCell]) [hRs, takeMarks, resA, resAll, resOne, Value.cells, c1, t0, t1, t2, t8, ptrV, hX, wkCells, rowS2, rowS1, idxSA_ok, show (a : Int) < P.l.length by omega, show (b : Int) < P.l.length by omega, vu, vf, ints_get, c2, hsl, hy, eg0, eg1, c3, storeB_int (show b < (v 6).length by omega) (hg 6 (by omega)), s3, s4, wrId (n := P.l1 * P.s) (by omega) (by omega), wrId (n := gi (v 8) a + P.l1 * P.s) (by unfold Never at fa; omega) (by unfold Never at fa; omega), storeB_int (show b < (v 8).length by omega) (hg 8 (by omega))]
        unfold spillD
        rw [hA]
        refine p3.same fun j hj => ?_
        simp only [tget_tset]
        repeat (rw [if_neg (by omega)])
      · simp (disch := as_aux_lemma => first | omega | simp only [hDs] <;> omega | simp [isCell]) [hRs, takeMarks, resA, resAll, resOne, Value.cells, c1, t0, t1, t2, t8, ptrV, hX, wkCells, rowS2, rowS1, idxSA_ok, show (a : Int) < P.l.length by omega, show (b : Int) < P.l.length by omega, vu, ints_get, c2, hsl, hy, eg0, eg1, c3]
        rw [hNo (by rw [eS]; simp [c3])]
        refine h.same fun j hj => ?_
        simp only [tget_tset]
        repeat (rw [if_neg (by omega)])
  · skip
    simp (disch := as_aux_lemma => first | omega | simp only [hDs] <;> omega | simp [isCell]) [hRs, takeMarks, resA, resAll, resOne, Value.cells, c1]
    rw [hNo (by rw [eS]; have : ¬ (P.at false).lst b ≤ 0 := by rw [el]; omega
                simp [this])]
    refine h.same fun j hj => ?_
    simp only [tget_tset]
    repeat (rw [if_neg (by omega)])
end
end Go.Ab.Wave
namespace Go.Ab.Wave
open Go Go.Ab
theorem eqv5 {a b c d e a' b' c' d' e' : Int} : eqvA true [false, false, false, false, false] (.agg ⟨[.int .i64 a, .int .i64 b, .int .i64 c, .int .i64 d, .int .i64 e]⟩) (.agg ⟨[.int .i64 a', .int .i64 b', .int .i64 c', .int .i64 d', .int .i64 e']⟩) =
    some (.bool (!(decide (a = a') && (decide (b = b') && (decide (c = c') && (decide (d = d') && decide (e = e'))))))) := by
  simp [eqvA, eqCells, cellEq, kEq]
  rfl
def spillR (P : Par) (a b : Nat) (v : Nat → List Int) : Nat → List Int := spillD P a b (spillU P a b v)
def flag5 (v v' : Nat → List Int) (b : Nat) : Bool := !(decide (gi (v 4) b = gi (v' 4) b) && (decide (gi (v 5) b = gi (v' 5) b) && (decide (gi (v 6) b = gi (v' 6) b) && (decide (gi (v 7) b = gi (v' 7) b) && decide (gi (v 8) b = gi (v' 8) b)))))
theorem spillU_val {P : Par} (hP : POk (P.at true)) {v : Nat → List Int} (h : VOk2 P v) (hn : ∀ i, i < 9 → (v i).length = P.l.length) {a b : Nat} (ha : a < P.l.length) (hb : b < P.l.length) : VOk2 P (spillU P a b v) := by
  unfold spillU spillL spillA
  split
  · rename_i hc
    have hs := spU_val hP (a := a) (b := b) hb (h.a4 a ha) hc
    have hle := hP.landE
    have hle' : 0 ≤ landE (P.at true) := hle.1
    have n4 := hn 4 (by omega)
    have n7 := hn 7 (by omega)
    refine ⟨fun c hc' => ?_, fun c hc' => h.a6 c hc', fun c hc' => ?_, fun c hc' => h.a8 c hc'⟩
    · show SurfV (gi ((v 4).set b _) c)
      rw [gi_set (by omega)]
      split
      · have := h.a4 b hb
        rcases this with e | e
        · rw [e]; exact .inr (by unfold Never; omega)
        · exact .inr (by omega)
      · exact h.a4 c hc'
    · show 0 ≤ gi ((v 7).set b _) c ∧ gi ((v 7).set b _) c ≤ Never
      rw [gi_set (by omega)]
      have p := h.a7 c hc'
      have p1 := h.a7 a ha
      have p2 := h.a7 b hb
      split <;> omega
  · simp only [upd_same]; exact h
section
variable {g : Nat} {A : Hp} {V : Value → Hp → Prop} {P : Par} {X rd : Nat} {r : Nat → Nat} {v : Nat → List Int} {a b : Nat}
theorem w77 (hu : POk (P.at true)) (hl : POk (P.at false)) (hW : Work A P X rd r v) (hO : VOk2 P v) (ha : a < P.l.length) (hb : b < P.l.length) (hg : ∀ i, i < 9 → g ≤ r i)
    (hQ : ∀ A', Keep (WK r) A A' → Work A' P X rd r (spillR P a b v) → V (.bool (flag5 v (spillR P a b v) b)) A') :
    WF AP KL g 77 [ptrV X, .int .i64 a, .int .i64 b] A V := by
  have hX := hW.hx
  have n4 := hW.nv 4 (by omega)
  have n5 := hW.nv 5 (by omega)
  have n6 := hW.nv 6 (by omega)
  have n7 := hW.nv 7 (by omega)
  have n8 := hW.nv 8 (by omega)
  have g0 := hg 0 (by omega)
  have hr0 := Hp.lt_of_get (hW.hv 0 (by omega))
  have hXn := Hp.lt_of_get hX
  have hr4 := Hp.lt_of_get (hW.hv 4 (by omega))
  have o4 := surfB (hO.a4 a ha)
  have hlo : 0 ≤ P.o0 ∧ P.o0 ≤ P.o1 ∧ P.o1 ≤ 1000 := hu.loss
  obtain ⟨bc, hbc⟩ : ∃ bc : List Value, bc = [.int .i64 (gi (v 4) b), .int .i64 (gi (v 5) b), .int .i64 (gi (v 6) b), .int .i64 (gi (v 7) b), .int .i64 (gi (v 8) b)] := ⟨_, rfl⟩
  obtain ⟨B, hB⟩ : ∃ B, B = A.push (.cells bc false) := ⟨_, rfl⟩
  have kB : Ext' A B := by rw [hB]; exact Ext'.push _ _
  have gB : B.get A.n = some (.cells bc false) := by rw [hB]; exact get_push_new
  have hB' := hB
  rw [hbc] at hB'
  rw [WF_body rfl AP77]
  simp (disch := as_aux_lemma => first | omega | simp only [hDs] <;> omega | simp [isCell]) [hRs, takeMarks, resA, resAll, resOne, Value.cells, h77, ptrV, hX, wkCells, rowS1, rowS2, idxSA_ok, show (b : Int) < P.l.length by omega, show (a : Int) < P.l.length by omega, hW.hv 4, hW.hv 5, hW.hv 6, hW.hv 7, hW.hv 8, ints_get, fillA, setRange, storeB_cells, setRange_all, set_push_eq, wrId (n := gi (v 4) a - P.o0) (by omega) (by omega)]
  rw [← hB']
  refine W_mono (r77a (B7 := A.n) (bc := bc) (A0 := B) hu hO ha hb hg ⟨hW.ext kB, gB, fun i hi => by have := Hp.lt_of_get (hW.hv i hi); omega, Keep.refl _ _, by simp [ptrV], by simp, by simp, by simp [ptrV]⟩ (by simp)) ?_
  rintro _ ⟨T1, D1, A1⟩ ⟨rfl, rfl, h1⟩
  have hO1 := spillU_val hu hO hW.nv ha hb
  have o6 := surfB (hO1.a6 a ha)
  have hX1 : A1.get X = _ := h1.w.hx
  have v6 : A1.get (r 6) = _ := h1.w.hv 6 (by omega)
  have m6 : (spillU P a b v 6).length = P.l.length := h1.w.nv 6 (by omega)
  have u0 : tget T1 0 = ptrV X := h1.t0
  have u1 : tget T1 1 = .int .i64 a := h1.t1
  have u2 : tget T1 2 = .int .i64 b := h1.t2
  have u7 : tget T1 7 = ptrV A.n := h1.t7
  simp (disch := as_aux_lemma => first | omega | simp only [hDs] <;> omega | simp [isCell]) [hRs, takeMarks, resA, resAll, resOne, Value.cells, u0, u1, ptrV, hX1, wkCells, rowS1, idxSA_ok, show (a : Int) < P.l.length by omega, v6, ints_get, wrId (n := gi (spillU P a b v 6) a - P.o1) (by omega) (by omega)]
  refine W_mono (r77b hl hO1 ha hb hg (h1.same (fun j hj => ?_)) ?_) ?_
  · simp only [tget_tset]
    repeat (rw [if_neg (by omega)])
  · simp
  rintro _ ⟨T2, D2, A2⟩ ⟨rfl, rfl, h2⟩
  have hW2 := h2.w
  have hX2 : A2.get X = _ := hW2.hx
  have t0 : tget T2 0 = ptrV X := h2.t0
  have t2 : tget T2 2 = .int .i64 b := h2.t2
  have t7 : tget T2 7 = ptrV A.n := h2.t7
  have b7 : A2.get A.n = some (.cells bc false) := h2.b7
  rw [hbc] at b7
  have hW3 : Work A2 P X rd r (spillR P a b v) := hW2
  have m4 := hW3.nv 4 (by omega)
  have m5 := hW3.nv 5 (by omega)
  have m6 := hW3.nv 6 (by omega)
  have m7 := hW3.nv 7 (by omega)
  have m8 := hW3.nv 8 (by omega)
  simp (disch := as_aux_lemma => first | omega | simp only [hDs] <;> omega | simp [isCell]) [hRs, takeMarks, resA, resAll, resOne, Value.cells, t0, t2, t7, b7, ptrV, hX2, wkCells, rowS1, rowS2, idxSA_ok, show (b : Int) < P.l.length by omega, hW3.hv 4, hW3.hv 5, hW3.hv 6, hW3.hv 7, hW3.hv 8, ints_get, fillA, setRange, eqv5]
  have := hQ A2 ((kB.keep _).trans h2.k) hW3
  unfold flag5 at this
  simp at this
  exact this
end
structure EndO (P : Par) (zs : List Int) (n : Nat) (vu vf : List Int) : Prop where
  nu : vu.length = P.l.length
  nf : vf.length = P.l.length
  u : ∀ c, c < P.l.length → SurfV (gi vu c)
  f : ∀ c, c < P.l.length → 0 ≤ gi vf c ∧ gi vf c ≤ Never
  du : ∀ c, c < P.l.length → (PU P).Der (srfK P (arrF P zs n) (strF P zs n) P.l.length) c (gi vu c)
  df : ∀ c, c < P.l.length → (PL P (fSu P zs n)).Der (arrF P zs n) c (gi vf c)
  gf : GA 2280000000 1000000000 vf
  iu : ∀ c, c < P.l.length → gi (srfK P (arrF P zs n) (strF P zs n) P.l.length) c ≤ gi vu c
  jf : ∀ c, c < P.l.length → gi vf c ≤ gi (arrF P zs n) c
structure EndL (P : Par) (zs : List Int) (n : Nat) (la : List Int) : Prop where
  nl : la.length = P.l.length
  l : ∀ c, c < P.l.length → SurfV (gi la c)
  d : ∀ c, c < P.l.length → gi la c = -Never ∨ ∃ a v, a < P.l.length ∧ (PU P).Der (srfK P (arrF P zs n) (strF P zs n) P.l.length) a v ∧ c ∈ nbP P a ∧ (P.spU a c v).2 = true ∧ gi la c = (P.spU a c v).1
def potO (vu vf : List Int) : Nat := (vu.map rankU).sum + (vf.map (rankA 43000000000)).sum
def potL' (la : List Int) : Nat := (la.map rankU).sum
theorem rankU_lt {v w : Int} (hv : SurfV v) (hw : -1200000 ≤ w ∧ w ≤ 200020000) (h : v < w) : rankU w < rankU v := by
  unfold rankU
  rw [if_neg (by unfold Never; omega)]
  rcases hv with e | e
  · rw [if_pos e]; omega
  · rw [if_neg (by unfold Never; omega)]; omega
theorem EndO.spill {P : Par} {zs : List Int} {n : Nat} {vu vf : List Int} (hP : POk P) (hF : SheetFin P zs n) (h : EndO P zs n vu vf) {a b : Nat} (ha : a < P.l.length) (hb : b ∈ nbP P a) :
    EndO P zs n (spillA P vu vf a b).1 (spillA P vu vf a b).2 ∧ potO (spillA P vu vf a b).1 (spillA P vu vf a b).2 ≤ potO vu vf ∧
    (gi (spillA P vu vf a b).1 b = gi vu b → gi (spillA P vu vf a b).2 b = gi vf b → spillA P vu vf a b = (vu, vf)) ∧
    (¬ (gi (spillA P vu vf a b).1 b = gi vu b ∧ gi (spillA P vu vf a b).2 b = gi vf b) → potO (spillA P vu vf a b).1 (spillA P vu vf a b).2 < potO vu vf) := by
  have hbn := nb_lt hP hb
  have hsm := hP.small
  by_cases hc : (P.spU a b (gi vu a)).2 = true
  · have oa := h.u a ha
    have ob := h.u b hbn
    have fa := h.f a ha
    have fb := h.f b hbn
    have hsv := spU_val hP (a := a) (b := b) hbn oa hc
    have hle := hP.landE
    obtain ⟨w, hw⟩ : ∃ w, w = (P.spU a b (gi vu a)).1 := ⟨_, rfl⟩
    obtain ⟨u, hu⟩ : ∃ u, u = gi vf a + landE P := ⟨_, rfl⟩
    have hle' : 0 ≤ landE P ∧ landE P ≤ 1000000000 := hle
    rw [← hw] at hsv
    have hp : spillA P vu vf a b = (vu.set b (max (gi vu b) w), vf.set b (min (gi vf b) u)) := by unfold spillA; rw [if_pos hc, hw, hu]
    rw [hp]
    dsimp only
    have bu : b < vu.length := by rw [h.nu]; exact hbn
    have bf : b < vf.length := by rw [h.nf]; exact hbn
    have hA : (∀ c, c < P.l.length → (0 ≤ gi (vf.set b (min (gi vf b) u)) c ∧ gi (vf.set b (min (gi vf b) u)) c ≤ Never) ∧ (PL P (fSu P zs n)).Der (arrF P zs n) c (gi (vf.set b (min (gi vf b) u)) c) ∧ gi (vf.set b (min (gi vf b) u)) c ≤ gi vf c) ∧ GA 2280000000 1000000000 (vf.set b (min (gi vf b) u)) ∧
        ((vf.set b (min (gi vf b) u)).map (rankA 43000000000)).sum ≤ (vf.map (rankA 43000000000)).sum ∧ (u < gi vf b → ((vf.set b (min (gi vf b) u)).map (rankA 43000000000)).sum < (vf.map (rankA 43000000000)).sum) := by
      by_cases hlt : u < gi vf b
      · rw [show min (gi vf b) u = u by omega]
        obtain ⟨g1, g2⟩ := GA_step (a := a) (b := b) (u := u) (RB := 43000000000) (by omega) h.gf (by rw [h.nf]; exact ha) bf (by omega) (by omega) (by omega) hlt fb.2 (by rw [h.nf]; omega)
        have hsum := sum_set (f := rankA 43000000000) (l := vf) (i := b) (v := u) bf g2
        refine ⟨fun c hc' => ?_, g1, Nat.le_of_lt hsum, fun _ => hsum⟩
        rw [gi_set bf]
        by_cases e : c = b
        · subst e
          rw [if_pos rfl]
          refine ⟨by omega, ?_, by omega⟩
          have hk := hF.srf.least' (PU_mon hP) (h.du a ha)
          have hs2 : (P.spU a c (gi (fSu P zs n) a)).2 = true := by
            rcases (PU_mon hP).mono a c (gi vu a) (gi (fSu P zs n) a) ha hb (hF.srf.mid.val a ha) hk hc with ⟨q, _⟩ | ⟨q, _⟩
            · exact q
            · cases q
          have hst := Stl.Der.step (S := PL P (fSu P zs n)) (vs0 := arrF P zs n) (a := a) (b := c) (v := gi vf a) ha (h.df a ha) hb hs2
          have e3 : ((PL P (fSu P zs n)).sp a c (gi vf a)).1 = u := by rw [hu]; rfl
          rw [e3] at hst
          exact hst
        · rw [if_neg e]; exact ⟨h.f c hc', h.df c hc', Int.le_refl _⟩
      · rw [show min (gi vf b) u = gi vf b by omega, set_self bf rfl]
        exact ⟨fun c hc' => ⟨h.f c hc', h.df c hc', Int.le_refl _⟩, h.gf, Nat.le_refl _, fun e => absurd e hlt⟩
    have hS : (∀ c, c < P.l.length → SurfV (gi (vu.set b (max (gi vu b) w)) c) ∧ (PU P).Der (srfK P (arrF P zs n) (strF P zs n) P.l.length) c (gi (vu.set b (max (gi vu b) w)) c) ∧ gi vu c ≤ gi (vu.set b (max (gi vu b) w)) c) ∧
        ((vu.set b (max (gi vu b) w)).map rankU).sum ≤ (vu.map rankU).sum ∧ (gi vu b < w → ((vu.set b (max (gi vu b) w)).map rankU).sum < (vu.map rankU).sum) := by
      by_cases hlt : gi vu b < w
      · rw [show max (gi vu b) w = w by omega]
        have hsum := sum_set (f := rankU) (l := vu) (i := b) (v := w) bu (rankU_lt ob hsv hlt)
        refine ⟨fun c hc' => ?_, Nat.le_of_lt hsum, fun _ => hsum⟩
        rw [gi_set bu]
        by_cases e : c = b
        · subst e
          rw [if_pos rfl]
          refine ⟨.inr hsv, ?_, by omega⟩
          have hst := Stl.Der.step (S := PU P) (vs0 := srfK P (arrF P zs n) (strF P zs n) P.l.length) (a := a) (b := c) (v := gi vu a) ha (h.du a ha) hb hc
          have e3 : ((PU P).sp a c (gi vu a)).1 = w := hw.symm
          rw [e3] at hst
          exact hst
        · rw [if_neg e]; exact ⟨h.u c hc', h.du c hc', Int.le_refl _⟩
      · rw [show max (gi vu b) w = gi vu b by omega, set_self bu rfl]
        exact ⟨fun c hc' => ⟨h.u c hc', h.du c hc', Int.le_refl _⟩, Nat.le_refl _, fun e => absurd e hlt⟩
    obtain ⟨hA1, hA2, hA3, hA4⟩ := hA
    obtain ⟨hS1, hS2, hS3⟩ := hS
    refine ⟨⟨by simp [h.nu], by simp [h.nf], fun c hc' => (hS1 c hc').1, fun c hc' => (hA1 c hc').1, fun c hc' => (hS1 c hc').2.1, fun c hc' => (hA1 c hc').2.1, hA2, fun c hc' => Int.le_trans (h.iu c hc') (hS1 c hc').2.2, fun c hc' => Int.le_trans (hA1 c hc').2.2 (h.jf c hc')⟩, ?_, fun e1 e2 => ?_, fun hne => ?_⟩
    · unfold potO; exact Nat.add_le_add hS2 hA3
    · rw [gi_set bu, if_pos rfl] at e1
      rw [gi_set bf, if_pos rfl] at e2
      rw [set_self bu e1, set_self bf e2]
    · rw [gi_set bu, if_pos rfl, gi_set bf, if_pos rfl] at hne
      unfold potO
      by_cases c1 : u < gi vf b
      · have := hA4 c1; omega
      · by_cases c2 : gi vu b < w
        · have := hS3 c2; omega
        · exact absurd ⟨by omega, by omega⟩ hne
  · have hp : spillA P vu vf a b = (vu, vf) := by unfold spillA; rw [if_neg hc]
    rw [hp]
    exact ⟨h, Nat.le_refl _, fun _ _ => rfl, fun hne => absurd ⟨rfl, rfl⟩ hne⟩
theorem EndL.spill {P : Par} {zs : List Int} {n : Nat} {vu vf la : List Int} (hP : POk P) (h : EndO P zs n vu vf) (hL : EndL P zs n la) {a b : Nat} (ha : a < P.l.length) (hb : b ∈ nbP P a) :
    EndL P zs n (spillL P vu la a b) ∧ potL' (spillL P vu la a b) ≤ potL' la ∧ (gi (spillL P vu la a b) b = gi la b → spillL P vu la a b = la) ∧ (¬ gi (spillL P vu la a b) b = gi la b → potL' (spillL P vu la a b) < potL' la) := by
  have hbn := nb_lt hP hb
  unfold spillL
  split
  · rename_i hc
    have hsv := spU_val hP (a := a) (b := b) hbn (h.u a ha) hc
    have ob := hL.l b hbn
    obtain ⟨w, hw⟩ : ∃ w, w = (P.spU a b (gi vu a)).1 := ⟨_, rfl⟩
    rw [← hw] at hsv ⊢
    have bl : b < la.length := by rw [hL.nl]; exact hbn
    by_cases hlt : gi la b < w
    · rw [show max (gi la b) w = w by omega]
      have hsum := sum_set (f := rankU) (l := la) (i := b) (v := w) bl (rankU_lt ob hsv hlt)
      refine ⟨⟨by simp [hL.nl], fun c hc' => ?_, fun c hc' => ?_⟩, Nat.le_of_lt hsum, fun e => ?_, fun _ => hsum⟩
      · rw [gi_set bl]; split
        · exact .inr hsv
        · exact hL.l c hc'
      · rw [gi_set bl]
        by_cases e : c = b
        · rw [if_pos e]
          refine .inr ⟨a, gi vu a, ha, h.du a ha, by rw [e]; exact hb, by rw [e]; exact hc, by rw [e]; exact hw⟩
        · rw [if_neg e]; exact hL.d c hc'
      · rw [gi_set bl, if_pos rfl] at e; omega
    · rw [show max (gi la b) w = gi la b by omega, set_self bl rfl]
      exact ⟨hL, Nat.le_refl _, fun _ => rfl, fun e => absurd rfl e⟩
  · exact ⟨hL, Nat.le_refl _, fun _ => rfl, fun e => absurd rfl e⟩
end Go.Ab.Wave
namespace Go.Ab.Wave
open Go Go.Ab
theorem Stl.least_of {S : Stl} (M : StlMon S) {vs0 vs : List Int} (hv : ∀ b, b < S.n → S.Val b (gi vs b)) (hi : ∀ b, b < S.n → S.key (gi vs b) ≤ S.key (gi vs0 b))
    (hc : ∀ c d, c < S.n → d ∈ S.nb c → (S.sp c d (gi vs c)).2 = true → ¬ S.key (S.sp c d (gi vs c)).1 < S.key (gi vs d)) {b : Nat} {v : Int} (hd : S.Der vs0 b v) : S.key (gi vs b) ≤ S.key v := by
  induction hd with
  | init hb => exact hi _ hb
  | @step a b v ha _ hb hs ih =>
    rcases M.mono a b v _ ha hb (hv _ ha) ih hs with ⟨k1, k2⟩ | ⟨_, k⟩
    · have := hc _ _ ha hb k1
      omega
    · exact k _ (hv _ (M.lt _ _ hb))
theorem EndO.fin {P : Par} {zs : List Int} {n : Nat} {vu vf : List Int} (hP : POk P) (hF : SheetFin P zs n) (h : EndO P zs n vu vf) (hq : ∀ a b, a < P.l.length → b ∈ nbP P a → spillA P vu vf a b = (vu, vf)) :
    vu = fSu P zs n ∧ vf = fAr P zs n := by
  have key : ∀ a b, a < P.l.length → b ∈ nbP P a → (P.spU a b (gi vu a)).2 = true → (P.spU a b (gi vu a)).1 ≤ gi vu b ∧ gi vf b ≤ gi vf a + landE P := by
    intro a b ha hb hs
    have hbn := nb_lt hP hb
    have e := hq a b ha hb
    unfold spillA at e
    rw [if_pos hs] at e
    have e1 : gi (vu.set b (max (gi vu b) (P.spU a b (gi vu a)).1)) b = gi vu b := by rw [(Prod.mk.inj e).1]
    have e2 : gi (vf.set b (min (gi vf b) (gi vf a + landE P))) b = gi vf b := by rw [(Prod.mk.inj e).2]
    rw [gi_set (by rw [h.nu]; exact hbn), if_pos rfl] at e1
    rw [gi_set (by rw [h.nf]; exact hbn), if_pos rfl] at e2
    omega
  have M := PU_mon hP
  have eu : vu = fSu P zs n := gi_ext h.nu hF.srf.mid.nv fun b hb => by
    have k1 : (PU P).key (gi (fSu P zs n) b) ≤ (PU P).key (gi vu b) := hF.srf.least' M (h.du b hb)
    have k2 : (PU P).key (gi vu b) ≤ (PU P).key (gi (fSu P zs n) b) := Stl.least_of M (vs0 := srfK P (arrF P zs n) (strF P zs n) P.l.length) (fun b hb => h.u b hb) (fun b hb => by
      show -(gi vu b) ≤ -_
      have := h.iu b hb
      omega) (fun c d hc hd hs => by
      have := (key c d hc hd hs).1
      show ¬ -(P.spU c d (gi vu c)).1 < -(gi vu d)
      omega) (hF.srf.mid.der b hb)
    exact Stl.key_inj (S := PU P) (by omega)
  refine ⟨eu, ?_⟩
  have hFL : (PL P (fSu P zs n)).FinV (arrF P zs n) vf := by
    refine ⟨⟨h.nf, hF.arr.mid.nv, h.f, h.df, fun b hb => .inl rfl, fun c hc => absurd hc List.not_mem_nil, h.gf, fun b hb => h.jf b hb, fun _ => Int.le_refl _⟩, fun c d hc hd hs => ⟨?_, fun e => by cases e⟩⟩
    have hs' : (P.spU c d (gi vu c)).2 = true := by rw [eu]; exact hs
    have := (key c d hc hd hs').2
    show ¬ gi vf c + landE P < gi vf d
    omega
  exact (hFL.out (PL_mon hP)).1
theorem EndL.fin {P : Par} {zs : List Int} {n : Nat} {vu vf la : List Int} (hP : POk P) (h : EndO P zs n vu vf) (hL : EndL P zs n la) (hq : ∀ a b, a < P.l.length → b ∈ nbP P a → spillA P vu vf a b = (vu, vf)) (hl : ∀ a b, a < P.l.length → b ∈ nbP P a → spillL P vu la a b = la) :
    la = fLa P zs n := by
  have hFin : (PU P).Fin (srfK P (arrF P zs n) (strF P zs n) P.l.length) (List.replicate P.l.length (-Never)) vu la := by
    refine ⟨⟨h.nu, hL.nl, h.u, h.du, fun b hb => ?_, fun c hc => absurd hc List.not_mem_nil, trivial, fun b hb => ?_, fun b => ?_⟩, fun a b ha hb hs => ⟨?_, fun _ => ?_⟩⟩
    · rcases hL.d b hb with e | e
      · exact .inl (e.trans (gi_replicate (show b < P.l.length from hb)).symm)
      · exact .inr e
    · show -(gi vu b) ≤ -_
      have := h.iu b hb
      omega
    · by_cases hb : b < P.l.length
      · rw [gi_replicate hb]
        have := hL.l b hb
        rcases this with e | e
        · omega
        · unfold Never; omega
      · have e1 : gi (List.replicate P.l.length (-Never)) b = 0 := by unfold gi; simp [List.getD_eq_getElem?_getD, hb]
        have e2 : gi la b = 0 := by unfold gi; rw [List.getD_eq_getElem?_getD, List.getElem?_eq_none (by rw [hL.nl]; omega)]; rfl
        rw [e1, e2]; exact Int.le_refl _
    · have e := hq a b ha hb
      have hs' : (P.spU a b (gi vu a)).2 = true := hs
      unfold spillA at e
      rw [if_pos hs'] at e
      have e1 : gi (vu.set b (max (gi vu b) (P.spU a b (gi vu a)).1)) b = gi vu b := by rw [(Prod.mk.inj e).1]
      rw [gi_set (by rw [h.nu]; exact nb_lt hP hb), if_pos rfl] at e1
      show ¬ -(P.spU a b (gi vu a)).1 < -(gi vu b)
      omega
    · have e := hl a b ha hb
      have hs' : (P.spU a b (gi vu a)).2 = true := hs
      unfold spillL at e
      rw [if_pos hs'] at e
      have e1 : gi (la.set b (max (gi la b) (P.spU a b (gi vu a)).1)) b = gi la b := by rw [e]
      rw [gi_set (by rw [hL.nl]; exact nb_lt hP hb), if_pos rfl] at e1
      show (P.spU a b (gi vu a)).1 ≤ gi la b
      omega
  exact (hFin.out (PU_mon hP)).2 rfl
theorem EndO.start {P : Par} {zs : List Int} {n : Nat} (hP : POk P) (hz : StartOk P zs n) (hF : SheetFin P zs n) : EndO P zs n (srfK P (arrF P zs n) (strF P zs n) P.l.length) (arrF P zs n) := by
  have hO := sailOk hP hz hF.arr hF.str
  exact ⟨srfK_len, hF.arr.mid.nv, fun c hc => srf_ok hP hO hc, fun c hc => (hO.ar c hc).1, fun c hc => .init hc, fun c hc => .init hc, GA1 hO hF.arr.mid.nv, fun _ _ => Int.le_refl _, fun _ _ => Int.le_refl _⟩
theorem EndL.start {P : Par} {zs : List Int} {n : Nat} : EndL P zs n (List.replicate P.l.length (-Never)) :=
  ⟨by simp, fun c hc => .inl (gi_replicate hc), fun c hc => .inl (gi_replicate hc)⟩
def RO (P : Par) (zs : List Int) (n : Nat) (v4 : Nat → List Int) : Rd where
  I v := EndO (P.at true) zs n (v 4) (v 7) ∧ EndL (P.at true) zs n (v 5) ∧ EndO (P.at false) zs n (v 6) (v 8) ∧ ∀ j, j < 4 → v j = v4 j
  pot v := potO (v 4) (v 7) + potL' (v 5) + potO (v 6) (v 8)
  step := spillR P
  fl a b v := flag5 v (spillR P a b v) b
theorem spillR_get {P : Par} {a b : Nat} {v : Nat → List Int} : spillR P a b v 4 = (spillA (P.at true) (v 4) (v 7) a b).1 ∧ spillR P a b v 7 = (spillA (P.at true) (v 4) (v 7) a b).2 ∧ spillR P a b v 5 = spillL (P.at true) (v 4) (v 5) a b ∧
    spillR P a b v 6 = (spillA (P.at false) (v 6) (v 8) a b).1 ∧ spillR P a b v 8 = (spillA (P.at false) (v 6) (v 8) a b).2 ∧ ∀ j, (j < 4 ∨ 9 ≤ j) → spillR P a b v j = v j := by
  refine ⟨rfl, rfl, rfl, rfl, rfl, fun j hj => ?_⟩
  unfold spillR spillD spillU upd
  rw [if_neg (by omega), if_neg (by omega), if_neg (by omega), if_neg (by omega), if_neg (by omega)]
theorem RO_ok {P : Par} {zs : List Int} {n : Nat} {v4 : Nat → List Int} (hu : POk (P.at true)) (hl : POk (P.at false)) (hFu : SheetFin (P.at true) zs n) (hFl : SheetFin (P.at false) zs n) : RdOk (RO P zs n v4) P := by
  refine ⟨fun v a b hI ha hb => ?_, fun v a b hI ha hb hf => ?_, fun v a b hI ha hb hf => ?_⟩
  · obtain ⟨e4, e7, e5, e6, e8, ej⟩ := spillR_get (P := P) (a := a) (b := b) (v := v)
    show EndO _ _ _ (spillR P a b v 4) (spillR P a b v 7) ∧ EndL _ _ _ (spillR P a b v 5) ∧ EndO _ _ _ (spillR P a b v 6) (spillR P a b v 8) ∧ _
    rw [e4, e7, e5, e6, e8]
    exact ⟨(hI.1.spill hu hFu ha hb).1, (hI.2.1.spill hu hI.1 ha hb).1, (hI.2.2.1.spill hl hFl ha hb).1, fun j hj => (ej j (.inl hj)).trans (hI.2.2.2 j hj)⟩
  · obtain ⟨e4, e7, e5, e6, e8, ej⟩ := spillR_get (P := P) (a := a) (b := b) (v := v)
    have hf' : flag5 v (spillR P a b v) b = false := hf
    unfold flag5 at hf'
    simp only [Bool.not_eq_false', Bool.and_eq_true, decide_eq_true_eq] at hf'
    obtain ⟨f4, f5, f6, f7, f8⟩ := hf'
    rw [e4] at f4
    rw [e5] at f5
    rw [e6] at f6
    rw [e7] at f7
    rw [e8] at f8
    have p := (hI.1.spill hu hFu ha hb).2.2.1 f4.symm f7.symm
    have o := (hI.2.1.spill hu hI.1 ha hb).2.2.1 f5.symm
    have q := (hI.2.2.1.spill hl hFl ha hb).2.2.1 f6.symm f8.symm
    show spillR P a b v = v
    funext j
    by_cases j4 : j = 4
    · rw [j4, e4, p]
    · by_cases j5 : j = 5
      · rw [j5, e5, o]
      · by_cases j6 : j = 6
        · rw [j6, e6, q]
        · by_cases j7 : j = 7
          · rw [j7, e7, p]
          · by_cases j8 : j = 8
            · rw [j8, e8, q]
            · exact ej j (by omega)
  · obtain ⟨e4, e7, e5, e6, e8, ej⟩ := spillR_get (P := P) (a := a) (b := b) (v := v)
    have hf' : flag5 v (spillR P a b v) b = true := hf
    have p := (hI.1.spill hu hFu ha hb).2
    have o := (hI.2.1.spill hu hI.1 ha hb).2
    have q := (hI.2.2.1.spill hl hFl ha hb).2
    show potO (spillR P a b v 4) (spillR P a b v 7) + potL' (spillR P a b v 5) + potO (spillR P a b v 6) (spillR P a b v 8) < potO (v 4) (v 7) + potL' (v 5) + potO (v 6) (v 8)
    rw [e4, e7, e5, e6, e8]
    by_cases c1 : gi (spillA (P.at true) (v 4) (v 7) a b).1 b = gi (v 4) b ∧ gi (spillA (P.at true) (v 4) (v 7) a b).2 b = gi (v 7) b
    · by_cases c2 : gi (spillA (P.at false) (v 6) (v 8) a b).1 b = gi (v 6) b ∧ gi (spillA (P.at false) (v 6) (v 8) a b).2 b = gi (v 8) b
      · by_cases c3 : gi (spillL (P.at true) (v 4) (v 5) a b) b = gi (v 5) b
        · unfold flag5 at hf'
          rw [e4, e5, e6, e7, e8, c1.1, c1.2, c2.1, c2.2, c3] at hf'
          simp at hf'
        · have := o.2.2 c3
          have := p.1
          have := q.1
          omega
      · have := q.2.2 c2
        have := p.1
        have := o.1
        omega
    · have := p.2.2 c1
      have := q.1
      have := o.1
      omega
def cpy (l : List Int) (n i : Nat) : List Int := (List.range n).map fun c => if c < i then gi l c else Never
theorem cpy_len {l : List Int} {n i : Nat} : (cpy l n i).length = n := by simp [cpy]
theorem cpy_get {l : List Int} {n i c : Nat} (hc : c < n) : gi (cpy l n i) c = if c < i then gi l c else Never := by
  rw [gi_eq (by rw [cpy_len]; exact hc)]; simp [cpy]
theorem cpy_zero {l : List Int} {n : Nat} : cpy l n 0 = List.replicate n Never := gi_ext cpy_len (by simp) fun c hc => by rw [cpy_get hc, gi_replicate hc, if_neg (by omega)]
theorem cpy_all {l : List Int} {n : Nat} (h : l.length = n) : cpy l n n = l := gi_ext cpy_len h fun c hc => by rw [cpy_get hc, if_pos hc]
theorem cpy_set {l : List Int} {n i : Nat} (hi : i < n) : (cpy l n i).set i (gi l i) = cpy l n (i + 1) := gi_ext (n := n) (by rw [List.length_set, cpy_len]) cpy_len fun c hc => by
  rw [gi_set (by rw [cpy_len]; exact hi), cpy_get hc, cpy_get hc]
  by_cases e : c = i
  · subst e; rw [if_pos rfl, if_pos (by omega)]
  · rw [if_neg e]
    by_cases h : c < i
    · rw [if_pos h, if_pos (by omega)]
    · rw [if_neg h, if_neg (by omega)]
theorem cpy_skip {l : List Int} {n i : Nat} (h : gi l i = Never) : cpy l n i = cpy l n (i + 1) := gi_ext (n := n) cpy_len cpy_len fun c hc => by
  rw [cpy_get hc, cpy_get hc]
  by_cases e : c = i
  · subst e; rw [if_neg (by omega), if_pos (by omega), h]
  · by_cases h : c < i
    · rw [if_pos h, if_pos (by omega)]
    · rw [if_neg h, if_neg (by omega)]
end Go.Ab.Wave
namespace Go.Ab.Wave
open Go Go.Ab
def p53c : ACode := (.seq
 (.ops [
oM 52 0,
oP 53 (.nilCheck (.t 52)),
oF 54 53 14,
oL 55 54,
oM 56 2,
oI 57 55 56 1,
oL 58 57,
oC 59 .lss 58 1099511627776])
 (.cond (.t 59)
 (.ops [
oM 60 0,
oP 61 (.nilCheck (.t 60)),
oF 62 61 19,
oL 63 62,
oM 64 2,
oM 65 0,
oP 66 (.nilCheck (.t 65)),
oF 67 66 21,
oL 68 67,
oM 69 2,
oM 70 0,
oP 71 (.nilCheck (.t 70)),
oF 72 71 4,
oF 73 72 0,
oL 74 73,
oM 75 0,
oM 76 2,
oA 77 76 [.t 75, .t 76] true,
oB 78 .add 74 77,
oM 79 0,
oP 80 (.nilCheck (.t 79)),
oF 81 80 14,
oL 82 81,
oM 83 2,
oI 84 82 83 1,
oL 85 84,
oI 86 63 64 1,
oT 86 78 1,
oI 87 68 69 1,
oT 87 85 1])
 .skip))
def body53t : ACode := .seq (.seq
 (.ops [
oM 7 2,
oM 8 0,
oP 9 (.nilCheck (.t 8)),
oF 10 9 12,
oL 11 10,
oP 12 (.len (.t 11)),
oB 13 .lss 7 12])
 (.cond (.t 13)
 .skip
 (.exit 0))) (.seq (.block 1 (.seq (.ops [
oM 16 0,
oP 17 (.nilCheck (.t 16)),
oF 18 17 20,
oL 19 18,
oM 20 2,
oM 21 0,
oP 22 (.nilCheck (.t 21)),
oF 23 22 13,
oL 24 23,
oM 25 2,
oI 26 24 25 1,
oL 27 26,
oI 28 19 20 1,
oT 28 27 1]) (.seq (.seq
 (.ops [
oM 29 0,
oP 30 (.nilCheck (.t 29)),
oF 31 30 13,
oL 32 31,
oM 33 2,
oI 34 32 33 1,
oL 35 34,
oC 36 .lss 35 1099511627776])
 (.cond (.t 36)
 (.ops [
oM 37 0,
oP 38 (.nilCheck (.t 37)),
oF 39 38 17,
oL 40 39,
oM 41 2,
oM 42 0,
oP 43 (.nilCheck (.t 42)),
oF 44 43 4,
oF 45 44 1,
oL 46 45,
oM 47 0,
oM 48 2,
oA 49 75 [.t 47, .t 48] true,
oB 50 .add 46 49,
oI 51 40 41 1,
oT 51 50 1])
 .skip)) p53c))) (.ops [
oM 14 2,
oC 15 .add 14 1,
oM 2 15]))
structure Ov (P : Par) (v0 v : Nat → List Int) (i : Nat) : Prop where
  e4 : v 4 = srfK (P.at true) (v0 0) (v0 3) i
  e5 : v 5 = v0 5
  e6 : v 6 = srfK (P.at false) (v0 1) (v0 2) i
  e7 : v 7 = cpy (v0 0) P.l.length i
  e8 : v 8 = cpy (v0 1) P.l.length i
  e : ∀ j, j < 4 → v j = v0 j
section
variable {g : Nat} {A : Hp} {V : Value → Hp → Prop} {P : Par} {X rd : Nat} {r : Nat → Nat} {v0 : Nat → List Int}
theorem loop53s {A0 : Hp} {D : List Nat} {rdd : Option Nat} {Q : Ex → St → Prop} (hu : POk (P.at true)) (hl : POk (P.at false)) (hOu : SailOk (P.at true) (v0 0) (v0 3)) (hOl : SailOk (P.at false) (v0 1) (v0 2)) (hg : ∀ i, i < 9 → g ≤ r i)
    (hQ : ∀ T' A' v, Keep (WK r) A0 A' → Work A' P X rd r v → Ov P v0 v P.l.length → tget T' 0 = ptrV X → Q (.exit 0) ⟨T', D, A'⟩) :
    ∀ (k i : Nat) (T : List Value) (A : Hp) (v : Nat → List Int), i + k = P.l.length → Keep (WK r) A0 A → Work A P X rd r v → Ov P v0 v i → tget T 0 = ptrV X → tget T 2 = .int .i64 i → W AP KL g rdd (.loop body53t) ⟨T, D, A⟩ Q := by
  have hsm : P.l.length ≤ 40 := hu.small
  intro k
  induction k with
  | zero =>
    intro i T A v hi hk hW hO t0 t2
    have hX := hW.hx
    have e : i = P.l.length := by omega
    rw [W_loop]
    simp (disch := as_aux_lemma => first | omega | simp only [hDs] <;> omega | simp [isCell]) [hRs, takeMarks, resA, resAll, resOne, Value.cells, body53t, t0, t2, ptrV, hX, wkCells, rowS2, show ¬ (i : Int) < (P.l.length : Int) by omega]
    rw [e] at hO
    exact hQ _ A v hk hW hO (by simp [t0, ptrV])
  | succ k ih =>
    intro i T A v hi hk hW hO t0 t2
    have hil : i < P.l.length := by omega
    have hX := hW.hx
    have a0 := hW.hv 0 (by omega)
    have a7 := hW.hv 7 (by omega)
    have n0 : (v 0).length = P.l.length := hW.nv 0 (by omega)
    have n7 : (v 7).length = P.l.length := hW.nv 7 (by omega)
    have v00 := hO.e 0 (by omega)
    have v01 := hO.e 1 (by omega)
    have v02 := hO.e 2 (by omega)
    have v03 := hO.e 3 (by omega)
    have ol := hOu.ar i hil
    have oh := hOl.ar i hil
    have hsea : -20000 ≤ P.slo ∧ P.slo ≤ P.shi ∧ P.shi ≤ 20000 := hu.sea
    have hw1 := hW.put (i := 7) (by omega) (l := (v 7).set i (gi (v 0) i)) (by rw [List.length_set]; exact n7)
    have kk1 := Keep.put' (b := some (.cells (ints ((v 7).set i (gi (v 0) i))) false)) hk (Hp.lt_of_get a7) (show WK r (r 7) from ⟨7, by omega, rfl⟩)
    have c7 : (v 7).set i (gi (v 0) i) = cpy (v0 0) P.l.length (i + 1) := by rw [hO.e7, v00, cpy_set hil]
    obtain ⟨A1, hA1⟩ : ∃ A1, A1 = A.set (r 7) (some (.cells (ints ((v 7).set i (gi (v 0) i))) false)) := ⟨_, rfl⟩
    obtain ⟨v1, hv1⟩ : ∃ v1, v1 = upd v 7 ((v 7).set i (gi (v 0) i)) := ⟨_, rfl⟩
    have hA1' := hA1
    rw [← hA1] at hw1 kk1
    rw [← hv1] at hw1
    have f0 : v1 0 = v0 0 := by rw [hv1]; exact v00
    have f1 : v1 1 = v0 1 := by rw [hv1]; exact v01
    have f2 : v1 2 = v0 2 := by rw [hv1]; exact v02
    have f3 : v1 3 = v0 3 := by rw [hv1]; exact v03
    have f4 : v1 4 = srfK (P.at true) (v0 0) (v0 3) i := by rw [hv1]; exact hO.e4
    have f5 : v1 5 = v0 5 := by rw [hv1]; exact hO.e5
    have f6 : v1 6 = srfK (P.at false) (v0 1) (v0 2) i := by rw [hv1]; exact hO.e6
    have f7 : v1 7 = cpy (v0 0) P.l.length (i + 1) := by rw [hv1]; exact c7
    have f8 : v1 8 = cpy (v0 1) P.l.length i := by rw [hv1]; exact hO.e8
    have bX := hw1.hx
    have b0 := hw1.hv 0 (by omega)
    have m0 : i < (v1 0).length := by rw [hw1.nv 0 (by omega)]; exact hil
    rw [f0] at b0 m0
    have part3 : ∀ (T' : List Value) (A2 : Hp) (v2 : Nat → List Int), Keep (WK r) A0 A2 → Work A2 P X rd r v2 → v2 4 = srfK (P.at true) (v0 0) (v0 3) (i + 1) → v2 5 = v0 5 → v2 6 = srfK (P.at false) (v0 1) (v0 2) i → v2 7 = cpy (v0 0) P.l.length (i + 1) → v2 8 = cpy (v0 1) P.l.length i → (∀ j, j < 4 → v2 j = v0 j) → tget T' 0 = ptrV X → tget T' 2 = .int .i64 i →
        W AP KL g rdd p53c ⟨T', D, A2⟩ (fun ex st => ex = .normal ∧ st.D = D ∧ tget st.T 0 = ptrV X ∧ tget st.T 2 = .int .i64 i ∧ Keep (WK r) A0 st.A ∧ ∃ v3, Work st.A P X rd r v3 ∧ Ov P v0 v3 (i + 1)) := by
      intro T' A2 v2 k2 hw2 g4 g5 g6 g7 g8 gj u0 u2
      have cX := hw2.hx
      have c1 := hw2.hv 1 (by omega)
      have c6 := hw2.hv 6 (by omega)
      have c8 := hw2.hv 8 (by omega)
      have m1 : i < (v2 1).length := by rw [hw2.nv 1 (by omega)]; exact hil
      have m6 : i < (v2 6).length := by rw [hw2.nv 6 (by omega)]; exact hil
      have m8 : i < (v2 8).length := by rw [hw2.nv 8 (by omega)]; exact hil
      have g1 := gj 1 (by omega)
      have g2 := gj 2 (by omega)
      rw [g1] at c1 m1
      by_cases hN : gi (v0 1) i < 1099511627776
      · have hun := hl.under (c := i) hil (oh.2 hN).2
        have hri := hl.rise (c := i) hil hun (hOl.st i hil)
        have hst : 0 ≤ gi (v2 2) i ∧ gi (v2 2) i ≤ 200000000 := by rw [g2]; exact hOl.st i hil
        have hpu := hw2.put (i := 6) (by omega) (l := (v2 6).set i (P.slo + (P.at false).rise (v0 2) i)) (by rw [List.length_set]; exact hw2.nv 6 (by omega))
        have hpu2 := hpu.put (i := 8) (by omega) (l := (v2 8).set i (gi (v0 1) i)) (by rw [List.length_set]; exact hw2.nv 8 (by omega))
        have q6 := Hp.lt_of_get c6
        have n86 := hw2.ne 8 6 (by omega) (by omega) (by omega)
        have s1 : ∀ z, (A2.set (r 6) z).get (r 8) = A2.get (r 8) := fun z => get_set_ne q6 n86
        have hlt : ((i : Nat) : Int) < P.l.length := by omega
        simp (disch := as_aux_lemma => first | omega | simp only [hDs] <;> omega | simp [isCell]) [hRs, takeMarks, resA, resAll, resOne, Value.cells, p53c, u0, u2, ptrV, cX, wkCells, rowS1, idxSA_ok, hlt, c1, ints_get m1, hN]
        refine w76 hw2 hl hil hun hst ?_
        rw [g2]
        simp (disch := as_aux_lemma => first | omega | simp only [hDs] <;> omega | simp [isCell]) [hRs, takeMarks, resA, resAll, resOne, Value.cells, p53c, u0, u2, ptrV, cX, wkCells, rowS1, idxSA_ok, hlt, c1, ints_get m1, wrId (n := P.slo + (P.at false).rise (v0 2) i) (by omega) (by omega), c6, storeB_int m6 (hg 6 (by omega)), s1, c8, storeB_int m8 (hg 8 (by omega))]
        refine ⟨Keep.put' (Keep.put' k2 q6 ⟨6, by omega, rfl⟩) (by show r 8 < A2.n; exact Hp.lt_of_get c8) ⟨8, by omega, rfl⟩, _, hpu2, ⟨?_, ?_, ?_, ?_, ?_, fun j hj => ?_⟩⟩
        · exact g4
        · exact g5
        · show (v2 6).set i _ = _
          rw [g6]
          exact srfK_set (P := P.at false) hil hN
        · exact g7
        · show (v2 8).set i _ = _
          rw [g8, cpy_set hil]
        · show upd (upd v2 6 _) 8 _ j = _
          unfold upd
          rw [if_neg (by omega), if_neg (by omega)]
          exact gj j hj
      · have hlt : ((i : Nat) : Int) < P.l.length := by omega
        simp (disch := as_aux_lemma => first | omega | simp only [hDs] <;> omega | simp [isCell]) [hRs, takeMarks, resA, resAll, resOne, Value.cells, p53c, u0, u2, ptrV, cX, wkCells, rowS1, idxSA_ok, hlt, c1, ints_get m1, hN]
        have hN' : ¬ gi (v0 1) i < Never := hN
        refine ⟨k2, v2, hw2, ⟨g4, g5, ?_, g7, ?_, gj⟩⟩
        · rw [g6]; exact srfK_skip hN
        · rw [g8]; exact cpy_skip (by omega)
    have hlt : ((i : Nat) : Int) < P.l.length := by omega
    rw [W_loop]
    by_cases hN : gi (v0 0) i < 1099511627776
    · have hun := hu.under (c := i) hil (ol.2 hN).2
      have hri := hu.rise (c := i) hil hun (hOu.st i hil)
      have hst : 0 ≤ gi (v1 3) i ∧ gi (v1 3) i ≤ 200000000 := by rw [f3]; exact hOu.st i hil
      have b4 := hw1.hv 4 (by omega)
      have m4 : i < (v1 4).length := by rw [hw1.nv 4 (by omega)]; exact hil
      have hpu := hw1.put (i := 4) (by omega) (l := (v1 4).set i (P.shi + (P.at true).rise (v0 3) i)) (by rw [List.length_set]; exact hw1.nv 4 (by omega))
      simp (disch := as_aux_lemma => first | omega | simp only [hDs] <;> omega | simp [isCell]) [hRs, takeMarks, resA, resAll, resOne, Value.cells, body53t, t0, t2, ptrV, hX, wkCells, rowS1, rowS2, idxSA_ok, hlt, a0, a7, ints_get (show i < (v 0).length by omega), storeB_int (show i < (v 7).length by omega) (hg 7 (by omega))]
      rw [← hA1]
      simp (disch := as_aux_lemma => first | omega | simp only [hDs] <;> omega | simp [isCell]) [hRs, takeMarks, resA, resAll, resOne, Value.cells, t0, t2, ptrV, bX, wkCells, rowS1, rowS2, idxSA_ok, hlt, b0, ints_get m0, hN]
      refine w75 hw1 hu hil hst ?_
      rw [f3]
      simp (disch := as_aux_lemma => first | omega | simp only [hDs] <;> omega | simp [isCell]) [hRs, takeMarks, resA, resAll, resOne, Value.cells, t0, t2, ptrV, idxSA_ok, hlt, wrId (n := P.shi + (P.at true).rise (v0 3) i) (by omega) (by omega), b4, storeB_int m4 (hg 4 (by omega))]
      refine W_mono (part3 _ _ _ (Keep.put' kk1 (Hp.lt_of_get b4) ⟨4, by omega, rfl⟩) hpu (by
        show (v1 4).set i _ = _
        rw [f4]
        exact srfK_set (P := P.at true) hil hN) f5 f6 f7 f8 (fun j hj => by
        show upd v1 4 _ j = _
        unfold upd
        rw [if_neg (by omega), hv1]
        unfold upd
        rw [if_neg (by omega)]
        exact hO.e j hj) (by simp [t0, ptrV]) (by simp [t2])) ?_
      rintro _ ⟨T3, D3, A3⟩ ⟨rfl, rfl, u0, u2, k3, v3, hw3, hO3⟩
      have u0' : tget T3 0 = ptrV X := u0
      have u2' : tget T3 2 = .int .i64 i := u2
      simp (disch := as_aux_lemma => first | omega | simp only [hDs] <;> omega | simp [isCell]) [hRs, takeMarks, resA, resAll, resOne, Value.cells, u2']
      refine ih (i + 1) _ A3 v3 (by omega) k3 hw3 hO3 ?_ ?_
      · simp [u0']
      · simp [wrId (n := (i : Int) + 1) (by omega) (by omega)]
    · have hN' : ¬ gi (v0 0) i < Never := hN
      simp (disch := as_aux_lemma => first | omega | simp only [hDs] <;> omega | simp [isCell]) [hRs, takeMarks, resA, resAll, resOne, Value.cells, body53t, t0, t2, ptrV, hX, wkCells, rowS1, rowS2, idxSA_ok, hlt, a0, a7, ints_get (show i < (v 0).length by omega), storeB_int (show i < (v 7).length by omega) (hg 7 (by omega))]
      rw [← hA1]
      simp (disch := as_aux_lemma => first | omega | simp only [hDs] <;> omega | simp [isCell]) [hRs, takeMarks, resA, resAll, resOne, Value.cells, t0, t2, ptrV, bX, wkCells, rowS1, rowS2, idxSA_ok, hlt, b0, ints_get m0, hN]
      refine W_mono (part3 _ _ _ kk1 hw1 (by rw [f4]; exact srfK_skip hN') f5 f6 f7 f8 (fun j hj => by
        rw [hv1]
        unfold upd
        rw [if_neg (by omega)]
        exact hO.e j hj) (by simp [t0, ptrV]) (by simp [t2])) ?_
      rintro _ ⟨T3, D3, A3⟩ ⟨rfl, rfl, u0, u2, k3, v3, hw3, hO3⟩
      have u0' : tget T3 0 = ptrV X := u0
      have u2' : tget T3 2 = .int .i64 i := u2
      simp (disch := as_aux_lemma => first | omega | simp only [hDs] <;> omega | simp [isCell]) [hRs, takeMarks, resA, resAll, resOne, Value.cells, u2']
      refine ih (i + 1) _ A3 v3 (by omega) k3 hw3 hO3 ?_ ?_
      · simp [u0']
      · simp [wrId (n := (i : Int) + 1) (by omega) (by omega)]
end
end Go.Ab.Wave
namespace Go.Ab.Wave
open Go Go.Ab
structure Done (P : Par) (zs : List Int) (n : Nat) (v : Nat → List Int) : Prop where
  d0 : v 0 = arrF (P.at true) zs n
  d1 : v 1 = arrF (P.at false) zs n
  d2 : v 2 = strF (P.at false) zs n
  d3 : v 3 = strF (P.at true) zs n
  d4 : v 4 = fSu (P.at true) zs n
  d5 : v 5 = fLa (P.at true) zs n
  d6 : v 6 = fSu (P.at false) zs n
  d7 : v 7 = fAr (P.at true) zs n
  d8 : v 8 = fAr (P.at false) zs n
section
variable {g : Nat} {A : Hp} {V : Value → Hp → Prop} {P : Par} {X rd : Nat} {r : Nat → Nat} {v : Nat → List Int} {n : Nat} {zs : List Int}
theorem w53 (hu : POk (P.at true)) (hl : POk (P.at false)) (hzu : StartOk (P.at true) zs n) (hzl : StartOk (P.at false) zs n) (hFu : SheetFin (P.at true) zs n) (hFl : SheetFin (P.at false) zs n) (hg : ∀ i, i < 9 → g ≤ r i) (hgA : g ≤ A.n) (hW : Work A P X rd r v)
    (h0 : v 0 = arrF (P.at true) zs n) (h3 : v 3 = strF (P.at true) zs n) (h1 : v 1 = arrF (P.at false) zs n) (h2 : v 2 = strF (P.at false) zs n)
    (h4 : v 4 = List.replicate P.l.length (-Never)) (h5 : v 5 = List.replicate P.l.length (-Never)) (h6 : v 6 = List.replicate P.l.length (-Never)) (h7 : v 7 = List.replicate P.l.length Never) (h8 : v 8 = List.replicate P.l.length Never)
    (hQ : ∀ A' v', Keep (WK r) A A' → Work A' P X rd r v' → Done P zs n v' → V (.tuple ⟨[]⟩) A') :
    WF AP KL g 53 [ptrV X] A V := by
  have hP := hu.of_at
  have hR := RO_ok (P := P) (zs := zs) (n := n) (v4 := v) hu hl hFu hFl
  have hOu : SailOk (P.at true) (v 0) (v 3) := by rw [h0, h3]; exact sailOk hu hzu hFu.arr hFu.str
  have hOl : SailOk (P.at false) (v 1) (v 2) := by rw [h1, h2]; exact sailOk hl hzl hFl.arr hFl.str
  rw [WF_body rfl (show AP 53 = some F53 from rfl)]
  simp (disch := as_aux_lemma => first | omega | simp only [hDs] <;> omega | simp [isCell]) [hRs, takeMarks, resA, resAll, resOne, Value.cells]
  refine loop53s (v0 := v) (A0 := A) hu hl hOu hOl hg (fun T' A1 v1 k1 hW1 hO1 p0 => ?_) P.l.length 0 _ A v (by omega) (Keep.refl _ _) hW ⟨?_, rfl, ?_, ?_, ?_, fun _ _ => rfl⟩ (by simp) (by simp)
  · simp (disch := as_aux_lemma => first | omega | simp only [hDs] <;> omega | simp [isCell]) [hRs, takeMarks, resA, resAll, resOne, Value.cells]
    have n1 := k1.1
    have e0 := hO1.e 0 (by omega)
    have e1 := hO1.e 1 (by omega)
    have e2 := hO1.e 2 (by omega)
    have e3 := hO1.e 3 (by omega)
    have q4 : v1 4 = srfK (P.at true) (arrF (P.at true) zs n) (strF (P.at true) zs n) (P.at true).l.length := by rw [hO1.e4, h0, h3]; rfl
    have q6 : v1 6 = srfK (P.at false) (arrF (P.at false) zs n) (strF (P.at false) zs n) (P.at false).l.length := by rw [hO1.e6, h1, h2]; rfl
    have q7 : v1 7 = arrF (P.at true) zs n := by rw [hO1.e7, h0]; exact cpy_all hFu.arr.mid.nv
    have q8 : v1 8 = arrF (P.at false) zs n := by rw [hO1.e8, h1]; exact cpy_all hFl.arr.mid.nv
    have q5 : v1 5 = List.replicate (P.at true).l.length (-Never) := by rw [hO1.e5, h5]; rfl
    refine loop53o (A0 := A1) (X := X) (rd := rd) (r := r) (R := RO P zs n v) hP hR (fun B w a b V' hB hI ha hb hq => ?_) (by omega) (fun T2 A2 v2 k2 hW2 hI hs => ?_) ((RO P zs n v).pot v1 + 1) _ A1 v1 true (Keep.refl _ _) hW1 ⟨?_, ?_, ?_, hO1.e⟩ (fun _ => Nat.lt_succ_self _) (fun e => absurd e (by decide)) ?_ ?_
    · exact w77 hu hl hB ⟨hI.1.u, hI.2.2.1.u, hI.1.f, hI.2.2.1.f⟩ ha (nb_lt hP hb) hg hq
    · simp (disch := as_aux_lemma => first | omega | simp only [hDs] <;> omega | simp [isCell]) [hRs, takeMarks, resA, resAll, resOne, Value.cells]
      have hq : ∀ a b, a < P.l.length → b ∈ nbP P a → spillR P a b v2 = v2 := fun a b ha hb => hs b (nb_lt hP hb) a ((refN_mem hP (nb_lt hP hb)).2 ⟨ha, hb⟩)
      have hqu : ∀ a b, a < (P.at true).l.length → b ∈ nbP (P.at true) a → spillA (P.at true) (v2 4) (v2 7) a b = (v2 4, v2 7) := fun a b ha hb => by
        obtain ⟨e4, e7, e5, e6, e8, ej⟩ := spillR_get (P := P) (a := a) (b := b) (v := v2)
        rw [hq a b ha hb] at e4 e7
        exact Prod.ext e4.symm e7.symm
      have hql : ∀ a b, a < (P.at false).l.length → b ∈ nbP (P.at false) a → spillA (P.at false) (v2 6) (v2 8) a b = (v2 6, v2 8) := fun a b ha hb => by
        obtain ⟨e4, e7, e5, e6, e8, ej⟩ := spillR_get (P := P) (a := a) (b := b) (v := v2)
        rw [hq a b ha hb] at e6 e8
        exact Prod.ext e6.symm e8.symm
      have hqL : ∀ a b, a < (P.at true).l.length → b ∈ nbP (P.at true) a → spillL (P.at true) (v2 4) (v2 5) a b = v2 5 := fun a b ha hb => by
        obtain ⟨e4, e7, e5, e6, e8, ej⟩ := spillR_get (P := P) (a := a) (b := b) (v := v2)
        rw [hq a b ha hb] at e5
        exact e5.symm
      have fu := hI.1.fin hu hFu hqu
      have fl := hI.2.2.1.fin hl hFl hql
      have fL := hI.2.1.fin hu hI.1 hqu hqL
      have ej := hI.2.2.2
      exact hQ A2 v2 (k1.trans k2) hW2 ⟨(ej 0 (by omega)).trans h0, (ej 1 (by omega)).trans h1, (ej 2 (by omega)).trans h2, (ej 3 (by omega)).trans h3, fu.1, fL, fl.1, fu.2, fl.2⟩
    · rw [q4, q7]; exact EndO.start hu hzu hFu
    · rw [q5]; exact EndL.start
    · rw [q6, q8]; exact EndO.start hl hzl hFl
    · simp [p0]
    · simp
  · rw [h4]; exact (srfK_zero (P := P.at true) (ar := v 0) (st := v 3)).symm
  · rw [h6]; exact (srfK_zero (P := P.at false) (ar := v 1) (st := v 2)).symm
  · rw [h7]; exact cpy_zero.symm
  · rw [h8]; exact cpy_zero.symm
end
end Go.Ab.Wave
