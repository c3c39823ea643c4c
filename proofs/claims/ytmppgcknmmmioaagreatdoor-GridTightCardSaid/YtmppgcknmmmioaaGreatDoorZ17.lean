/- A land by numbers among a law's arguments. -/
import Derived.Test.YtmppgcknmmmioaaGreatDoorZ16
import Derived.Test.YtmppgcknmmmioaaGreatDoorZ14
set_option linter.unusedSimpArgs false
set_option linter.unusedVariables false
set_option linter.unusedSectionVars false
set_option maxRecDepth 100000
namespace Go.Ab.Grid
open Go Go.Ab
section
variable {g : Nat} {rd : Option Nat} {T : List Value} {D : List Nat} {A : Hp} {Q : Ex → St → Prop} {V : Value → Hp → Prop}
theorem w329 {up : Bool} {w h s st : Int} {m X2 XS Xo Y cap : Nat} {zs cur0 : List Int} {sl : Value} (hm : m < 1000) (hE : gridE w h s m zs = 0) (hst : 0 ≤ st ∧ st ≤ 2400000) (hX2 : A.get X2 = some (boxG w h s sl)) (hsl : RdS A 2 m (ints zs) sl) (hXS : A.get XS = some (.cells [.int .i64 st] false))
    (hXo : A.get Xo = some (boxG w h s (.slice (some ⟨Y, 0, some 2⟩) m cap))) (hY : A.get Y = some (.cells (ints cur0) false)) (hcl : cur0.length = m * 2) (hne : Xo ≠ Y) (hg : g ≤ Y)
    (hV : ∀ v A' o cur, TFin (tPar up w h m zs st) o → Upd up m m o cur0 cur → But Y A A' → A'.get Y = some (.cells (ints cur) false) → V v A') : WF AP KL g 329 [endT up, setT up Xo, .pointer (some ⟨X2, 0, none⟩), .pointer (some ⟨XS, 0, none⟩)] A V := by
  rw [WF_body (show KL 329 = none from rfl) (show AP 329 = some F329 from rfl)]
  obtain ⟨hw, hh, hmw, hv⟩ := gridE_parts hE
  have hYn := Hp.lt_of_get hY
  have hX2n := Hp.lt_of_get hX2
  have hXSn := Hp.lt_of_get hXS
  have hXon := Hp.lt_of_get hXo
  have hl := hsl.len
  have hPok := tPar_ok (up := up) hE hst
  obtain ⟨B, hB⟩ : ∃ B, B = ((A.push (.cells [.slice none 0 0, bef330] false)).push (.cells (ints (List.replicate m 0)) false)).push (.cells [rowS1 (A.n + 1) m] false) := ⟨_, rfl⟩
  have eB : Ext' A B := by rw [hB]; exact ((Ext'.push _ _).trans (Ext'.push _ _)).trans (Ext'.push _ _)
  have nB : B.n = A.n + 3 := by rw [hB]; rfl
  have b8 : B.get A.n = some (.cells [.slice none 0 0, bef330] false) := by rw [hB, get_push_old (by simp; omega), get_push_old (by simp), get_push_eq (by simp)]
  have bO : B.get (A.n + 1) = some (.cells (ints (List.replicate m 0)) false) := by rw [hB, get_push_old (by simp), get_push_eq (by simp)]
  have b7 : B.get (A.n + 2) = some (.cells [rowS1 (A.n + 1) m] false) := by rw [hB, get_push_eq (by simp)]
  obtain ⟨b, hb⟩ : ∃ b : TB, b = ⟨A.n, A.n + 3, A.n + 2, A.n, A.n + 1⟩ := ⟨_, rfl⟩
  have hO : b.Ok := by rw [hb]; exact ⟨by simp, by simp, by simp, by simp, by simp, by simp⟩
  obtain ⟨bN0, bN, q7, q8, qO⟩ : b.N0 = A.n ∧ b.N = A.n + 3 ∧ b.X7 = A.n + 2 ∧ b.X8 = A.n ∧ b.OB = A.n + 1 := by rw [hb]; exact ⟨rfl, rfl, rfl, rfl, rfl⟩
  have hT0 : TL b m A B (List.replicate m 0) [] := by
    refine ⟨fun z hz => eB.2 z (by omega), ?_, ?_, ⟨⟨.slice none 0 0, by rw [q8]; exact b8, ⟨.inl ⟨rfl, rfl⟩⟩⟩, by omega⟩, by omega⟩
    · rw [q7, qO]; exact b7
    · rw [qO]; exact bO
  unfold rowS1 bef330 at hB
  simp (disch := as_aux_lemma => first | omega | simp only [hDs] <;> omega | simp [isCell]) [hRs, takeMarks, resA, resAll, resOne, Value.cells, F329, hX2, boxG, hl, makeS_ok (n := m) (by omega), fillA, setRange, storeB_cells, set_push_eq, setRange_all, rowS1, ← hB, eB.get hX2]
  refine loop329a (up := up) (b := b) (A0 := A) (w := w) (h := h) (s := s) (st := st) (m := m) (zs := zs) (sl := sl) hO hm hE hsl (fun z hz => by have := hsl.blk_lt hz; omega) (by omega) (fun T1 A1 o1 L1 hT1 ho1 hob hL1 hLl u1 u2 u3 u6 u7 => ?_) m 0 (List.replicate m 0) [] (Nat.zero_add _) hT0 (by simp) (fun c hc => by omega) (fun z => by simp) rfl ?_ rfl rfl rfl ?_ ?_ ?_ ?_ ?_
  rotate_left
  · simp
  · simp [q8]
  · simp [q7]
  · simp
  · simp
  · simp
  simp at u1 u2 u3
  simp (disch := as_aux_lemma => first | omega | simp only [hDs] <;> omega | simp [isCell]) [hRs, takeMarks, resA, resAll, resOne, Value.cells]
  have hM : TMid (tPar up w h m zs st) o1 L1 none := TMid.start hPok ho1 hob hL1
  have hpot : potT o1 ≤ m * 2400000 := by
    have := potT_le (o := o1) fun c hc => by rw [hob c (by omega)]; exact (hPok.bs c (show c < m by omega)).2
    rw [ho1] at this
    exact this
  have G0 : GoT b (tPar up w h m zs st) A (2 * potT o1 + L1.length) (fD [] []) none A1 := ⟨⟨o1, L1, hT1, hM, Nat.le_refl _⟩, fun y hy => by simp [fD] at hy⟩
  refine loop329b (T := T1) (b := b) (P := tPar up w h m zs st) (A0 := A) (w := w) (h := h) (s := s) (sl := sl) (X2 := X2) (XS := XS) hO hPok hm (by omega) hXS (by omega) hw hh hmw (fun c hc => rfl) hX2 (by omega) (fun T2 A2 D2 K2 hG hD hEn v1 v7 => ?_) (2 * potT o1 + L1.length) (by omega) G0 List.nodup_nil ?_ ?_ ?_ ?_ ?_
  · obtain ⟨o, s1, s2⟩ := hEn
    have hF := s2.fin
    have hmk : ∀ x, x ∈ D2 → SafT b A2 x .marks := fun x hx => hG.F (x, .marks) (by unfold fD; simp [hx])
    have s7 := s1.x7
    unfold rowS1 at s7
    have hol : o.length = m := hF.len
    simp (disch := as_aux_lemma => first | omega | simp only [hDs] <;> omega | simp [isCell]) [hRs, takeMarks, resA, resAll, resOne, Value.cells, v7, s7]
    refine loop329c (up := up) (A0 := A2) (Xo := Xo) (Y := Y) (cap := cap) (OB := b.OB) (w := w) (h := h) (s := s) (o := o) (cur0 := cur0) hm hol (fun c hc => hF.rng hPok hc) (by rw [s1.low _ (by omega)]; exact hXo) s1.ob ⟨hne, by omega⟩ (by have := s1.nn; omega) hg (fun T3 A3 cur hU hb3 hn3 hY3 => ?_) m 0 cur0 (Nat.zero_add _) ⟨hcl, fun j hj => ?_, fun j hj => ?_⟩ ⟨Nat.le_refl _, fun _ _ _ => rfl⟩ rfl (by rw [s1.low _ (by omega)]; exact hY) ?_ ?_ ?_ ?_
    · have hlo : ∀ y, y < b.N → y ∉ D2 := fun y hy hm => by have := (hmk y hm).lo; omega
      obtain ⟨A4, m1, m2, m3⟩ := takeMarks_all D2 A3 hD fun x hx => by
        have h1 := (hmk x hx).lo
        rw [hb3.2 x (Hp.lt_of_get (hmk x hx).at_) (by omega)]
        exact (hmk x hx).at_
      simp (disch := as_aux_lemma => first | omega | simp only [hDs] <;> omega | simp [isCell]) [hRs, takeMarks, resA, resAll, resOne, Value.cells, m1]
      refine hV _ A4 o cur hF hU ⟨by have := s1.nn; omega, fun z hz hzY => ?_⟩ (by rw [m3 Y (hlo Y (by omega))]; exact hY3)
      rw [m3 z (hlo z (by omega)), hb3.2 z (by have := s1.nn; omega) hzY, s1.low z (by omega)]
    · rw [if_neg (fun x => by omega)]
    · rw [if_neg (fun x => by omega)]
    · simp [v1, u1]
    · simp [rowS1, tPar]
    · simp [tPar]
    · simp
  all_goals simp [u1, u2, u3, u6, u7]
end
end Go.Ab.Grid
set_option maxRecDepth 100000
namespace Go.Ab.Grid
open Go Go.Ab
def TigZ (w h : Int) (m : Nat) (zs : List Int) (st : Int) (Z : List Int) : Prop :=
  Z.length = m * 2 ∧ ∃ ou ol, TFin (tPar true w h m zs st) ou ∧ TFin (tPar false w h m zs st) ol ∧ ∀ j, j < m → gi Z (j * 2) = -(gi ol j) ∧ gi Z (j * 2 + 1) = gi ou j
theorem TigZ.uniq {w h s st : Int} {m : Nat} {zs Z Z' : List Int} (hE : gridE w h s m zs = 0) (hst : 0 ≤ st ∧ st ≤ 2400000) (h1 : TigZ w h m zs st Z) (h2 : TigZ w h m zs st Z') : Z = Z' := by
  obtain ⟨l1, ou, ol, a1, a2, a3⟩ := h1
  obtain ⟨l2, ou', ol', b1, b2, b3⟩ := h2
  have e1 := TFin.uniq (tPar_ok (up := true) hE hst) a1 b1
  have e2 := TFin.uniq (tPar_ok (up := false) hE hst) a2 b2
  subst e1
  subst e2
  refine list_gi (by rw [l1, l2]) fun i hi => ?_
  rw [l1] at hi
  obtain ⟨j, hj⟩ : ∃ j, i = j * 2 ∨ i = j * 2 + 1 := ⟨i / 2, by omega⟩
  rcases hj with rfl | rfl
  · rw [(a3 j (by omega)).1, (b3 j (by omega)).1]
  · rw [(a3 j (by omega)).2, (b3 j (by omega)).2]
def TigV (A : Hp) (w h s : Int) (m : Nat) (zs : List Int) (st : Int) (vg : Value) (e : Int) : Prop :=
  (gridE w h s m zs ≠ 0 ∧ e = gridE w h s m zs ∧ GAt A G0 vg) ∨ (gridE w h s m zs = 0 ∧ ¬ (0 ≤ st ∧ st ≤ 2400000) ∧ e = 3 ∧ GAt A G0 vg) ∨
    (gridE w h s m zs = 0 ∧ (0 ≤ st ∧ st ≤ 2400000) ∧ ∃ Z, TigZ w h m zs st Z ∧ ((∀ j, j < m → gi Z (j * 2) ≤ gi Z (j * 2 + 1)) ∧ e = 0 ∧ GAt A ⟨w, h, s, m, Z⟩ vg ∨ (∃ j, j < m ∧ gi Z (j * 2 + 1) < gi Z (j * 2)) ∧ e = 14 ∧ GAt A G0 vg))
section
variable {g : Nat} {rd : Option Nat} {T : List Value} {D : List Nat} {A : Hp} {Q : Ex → St → Prop} {V : Value → Hp → Prop}
theorem says334 {A0 : Hp} {n : Nat} {zs : List Int} : Says g A0 (.func (.func 334) ⟨[]⟩ ⟨[]⟩) n (fun i => .agg ⟨[.int .i64 (gi zs (i * 2)), .int .i64 (gi zs (i * 2 + 1))]⟩) (fun i => decide (gi zs (i * 2 + 1) < gi zs (i * 2))) := by
  intro i hi A V he hV
  simp (disch := as_aux_lemma => first | omega | simp only [hDs] <;> omega | simp [isCell]) [hRs, takeMarks, resA, resAll, resOne, Value.cells]
  rw [WF_body (show KL 334 = none from rfl) (show AP 334 = some F334 from rfl)]
  simp (disch := as_aux_lemma => first | omega | simp only [hDs] <;> omega | simp [isCell]) [hRs, takeMarks, resA, resAll, resOne, Value.cells, F334]
  exact hV _ (Ext'.push A _)
theorem w304 {w h s st : Int} {m : Nat} {zs : List Int} {sl : Value} (hm : m < 1000000) (hsl : RdS A 2 m (ints zs) sl) (hg : g ≤ A.n)
    (hV : ∀ A' vg e, Ext' A A' → TigV A' w h s m zs st vg e → V (.tuple ⟨[vg, .int .i64 e]⟩) A') : WF AP KL g 304 [gridV w h s sl, .int .i64 st] A V := by
  rw [WF_body (show KL 304 = none from rfl) (show AP 304 = some F304 from rfl)]
  obtain ⟨pl, cl, rfl⟩ := hsl.isSlice'
  obtain ⟨B, hB⟩ : ∃ B, B = ((A.push (boxG w h s (.slice pl m cl))).push (.cells [.int .i64 st] false)).push zeroG := ⟨_, rfl⟩
  have eB : Ext' A B := by rw [hB]; exact ((Ext'.push _ _).trans (Ext'.push _ _)).trans (Ext'.push _ _)
  have nB : B.n = A.n + 3 := by rw [hB]; rfl
  have b2 : B.get A.n = some (boxG w h s (.slice pl m cl)) := by rw [hB, get_push_old (by simp; omega), get_push_old (by simp), get_push_eq (by omega)]
  have b3 : B.get (A.n + 1) = some (.cells [.int .i64 st] false) := by rw [hB, get_push_old (by simp), get_push_eq (by simp)]
  have b4 : B.get (A.n + 1 + 1) = some zeroG := by rw [hB, get_push_eq (by simp)]
  unfold boxG zeroG at hB
  simp (disch := as_aux_lemma => first | omega | simp only [hDs] <;> omega | simp [isCell]) [hRs, takeMarks, resA, resAll, resOne, Value.cells, F304, gridV, ← hB, b2, boxG]
  refine w37 (w := w) (h := h) (s := s) (zs := zs) (eB.rdS hsl) hm fun A1 e1 => ?_
  have n1 := e1.1
  have c4 := e1.get b4
  have f1 := eB.trans e1
  have zz : ∀ {A' : Hp}, Ext' A A' → A'.get (A.n + 1 + 1) = some zeroG → ∀ e, (∀ A'' vg, GAt A'' G0 vg → TigV A'' w h s m zs st vg e) → V (.tuple ⟨[gridV 0 0 0 (.slice none 0 0), .int .i64 e]⟩) (A'.set (A.n + 1 + 1) (some zeroG)) := fun {A'} e' c' e hT => by
    refine hV _ _ _ (e'.trans (set_same c')) (hT _ _ GAt.zero)
  by_cases hE : gridE w h s m zs = 0
  · obtain ⟨hw, hh, hmw, hv⟩ := gridE_parts hE
    have c24 : w * h ≤ 24 * 24 := Int.mul_le_mul hw.2 hh.2 (by omega) (by omega)
    have c1 : 1 ≤ w * h := by
      have := Int.mul_le_mul hw.1 hh.1 (by omega) (by omega)
      omega
    simp (disch := as_aux_lemma => first | omega | simp only [hDs] <;> omega | simp [isCell]) [hRs, takeMarks, resA, resAll, resOne, Value.cells, hE, e1.get b3]
    refine w55 ?_
    by_cases hst : 0 ≤ st ∧ st ≤ 2400000
    · have d2 := e1.get b2
      simp (disch := as_aux_lemma => first | omega | simp only [hDs] <;> omega | simp [isCell]) [hRs, takeMarks, resA, resAll, resOne, Value.cells, hst.1, hst.2, d2, boxG]
      refine w326 (w := w) (h := h) (s := s) (zs := zs) (f1.rdS hsl) (by omega) (by omega) (by have := f1.1; omega) fun A2 Y c e2 hAY hY => ?_
      have n2 := e2.1
      have hYn := Hp.lt_of_get hY
      have f2 := f1.trans e2
      simp (disch := as_aux_lemma => first | omega | simp only [hDs] <;> omega | simp [isCell]) [hRs, takeMarks, resA, resAll, resOne, Value.cells, gridV, fillA, storeB_cells, setRange_all, set_push_eq]
      obtain ⟨C, hC⟩ : ∃ C, C = A2.push (boxG w h s (.slice (some ⟨Y, 0, some 2⟩) m c)) := ⟨_, rfl⟩
      have eC : Ext' A2 C := by rw [hC]; exact Ext'.push _ _
      have nC : C.n = A2.n + 1 := by rw [hC]; rfl
      have x7 : C.get A2.n = some (boxG w h s (.slice (some ⟨Y, 0, some 2⟩) m c)) := by rw [hC]; exact get_push_new
      unfold boxG at hC
      rw [← hC]
      have f3 := f2.trans eC
      have e3 := (e1.trans e2).trans eC
      refine w329 (up := true) (w := w) (h := h) (s := s) (st := st) (X2 := A.n) (XS := A.n + 1) (Xo := A2.n) (Y := Y) (cap := c) (by omega) hE hst (e3.get b2) (f3.rdS hsl) (e3.get b3) x7 (eC.get hY) (by have := hsl.1; simpa using this) (by omega) (by omega) fun v1 A3 ou cur1 hou hU1 hb1 hY1 => ?_
      have hb1n := hb1.1
      have rsl3 : RdS A3 2 m (ints zs) (.slice pl m cl) := (f3.rdS hsl).keepB fun z hz => hb1.2 z (by have := hsl.blk_lt hz; have := f3.1; omega) (by have := hsl.blk_lt hz; have := f1.1; omega)
      have y2 : A3.get A.n = some (boxG w h s (.slice pl m cl)) := by rw [hb1.2 _ (by have := f3.1; omega) (by have := f1.1; omega)]; exact e3.get b2
      have y3 : A3.get (A.n + 1) = some (.cells [.int .i64 st] false) := by rw [hb1.2 _ (by omega) (by omega)]; exact e3.get b3
      have y4 : A3.get (A.n + 1 + 1) = some zeroG := by rw [hb1.2 _ (by omega) (by omega)]; exact e3.get b4
      have y7 : A3.get A2.n = some (boxG w h s (.slice (some ⟨Y, 0, some 2⟩) m c)) := by rw [hb1.2 _ (by omega) (by omega)]; exact x7
      simp (disch := as_aux_lemma => first | omega | simp only [hDs] <;> omega | simp [isCell]) [hRs, takeMarks, resA, resAll, resOne, Value.cells]
      refine w329 (up := false) (w := w) (h := h) (s := s) (st := st) (X2 := A.n) (XS := A.n + 1) (Xo := A2.n) (Y := Y) (cap := c) (by omega) hE hst y2 rsl3 y3 y7 hY1 hU1.len (by omega) (by omega) fun v2 A4 ol cur2 hol hU2 hb2 hY2 => ?_
      have hb2n := hb2.1
      have z7 : A4.get A2.n = some (boxG w h s (.slice (some ⟨Y, 0, some 2⟩) m c)) := by rw [hb2.2 _ (by omega) (by omega)]; exact y7
      have z4 : A4.get (A.n + 1 + 1) = some zeroG := by rw [hb2.2 _ (by omega) (by omega)]; exact y4
      have hZ : TigZ w h m zs st cur2 := ⟨hU2.len, ou, ol, hou, hol, fun j hj => ⟨by rw [hU2.lo j hj, if_pos ⟨rfl, hj⟩], by rw [hU2.hi j hj, if_neg (by simp), hU1.hi j hj, if_pos ⟨rfl, hj⟩]⟩⟩
      have e04 : Ext' A A4 := ⟨by have := f3.1; omega, fun z hz => by rw [hb2.2 z (by have := f3.1; omega) (by have := f1.1; omega), hb1.2 z (by have := f3.1; omega) (by have := f1.1; omega), f3.2 z hz]⟩
      have rY : RdS A4 2 m (ints cur2) (.slice (some ⟨Y, 0, some 2⟩) m c) := ⟨by rw [ints_length, hU2.len], .inr ⟨Y, c, false, rfl, hY2⟩⟩
      simp (disch := as_aux_lemma => first | omega | simp only [hDs] <;> omega | simp [isCell]) [hRs, takeMarks, resA, resAll, resOne, Value.cells, z7, boxG]
      refine w56 rY (fun i hi => ints_two (by rw [hU2.len]; omega)) says334 (by omega) fun A5 e5 => ?_
      have u4 := e5.get z4
      have u7 := e5.get z7
      cases hany : (List.range m).any (fun j => decide (gi cur2 (j * 2 + 1) < gi cur2 (j * 2))) with
      | true =>
        obtain ⟨j, hj, hlt⟩ := List.any_eq_true.1 hany
        rw [List.mem_range] at hj
        simp (disch := as_aux_lemma => first | omega | simp only [hDs] <;> omega | simp [isCell]) [hRs, takeMarks, resA, resAll, resOne, Value.cells, u4, storeB_cells, setRange_all, fillA, get_set_same u4]
        exact zz (e04.trans e5) u4 14 fun A'' vg hz => .inr (.inr ⟨hE, hst, cur2, hZ, .inr ⟨⟨j, hj, by simpa using hlt⟩, rfl, hz⟩⟩)
      | false =>
        have hall : ∀ j, j < m → gi cur2 (j * 2) ≤ gi cur2 (j * 2 + 1) := fun j hj => by
          have := List.any_eq_false.1 hany j (List.mem_range.2 hj)
          simp at this
          omega
        simp (disch := as_aux_lemma => first | omega | simp only [hDs] <;> omega | simp [isCell]) [hRs, takeMarks, resA, resAll, resOne, Value.cells, u4, u7, boxG, storeB_cells, setRange_all, get_set_same u4]
        have o1 : ∀ (b : Option ABlk) z, z ≠ A.n + 1 + 1 → (A5.set (A.n + 1 + 1) b).get z = A5.get z := fun b z hz => get_set_ne (Hp.lt_of_get u4) hz
        refine hV _ _ _ ⟨by have := e04.1; have := e5.1; simp; omega, fun z hz => by rw [o1 _ z (by omega), (e04.trans e5).2 z hz]⟩ (.inr (.inr ⟨hE, hst, cur2, hZ, .inl ⟨hall, rfl, _, rfl, ?_⟩⟩))
        exact (e5.rdS rY).keepB fun z hz => o1 _ z (by cases hz; omega)
    · have hst' : (decide (0 ≤ st) && decide (st ≤ 2400000)) = false := by
        simp
        omega
      simp (disch := as_aux_lemma => first | omega | simp only [hDs] <;> omega | simp [isCell]) [hRs, takeMarks, resA, resAll, resOne, Value.cells, hst', c4, storeB_cells, setRange_all, fillA, get_set_same c4]
      exact zz f1 c4 3 fun A'' vg hz => .inr (.inl ⟨hE, hst, rfl, hz⟩)
  · simp (disch := as_aux_lemma => first | omega | simp only [hDs] <;> omega | simp [isCell]) [hRs, takeMarks, resA, resAll, resOne, Value.cells, hE, c4, storeB_cells, setRange_all, fillA, get_set_same c4]
    exact zz f1 c4 _ fun A'' vg hz => .inl ⟨hE, rfl, hz⟩
end
end Go.Ab.Grid
set_option maxRecDepth 100000
namespace Go.Ab.Grid
open Go Go.Ab
section
variable {g : Nat} {rd : Option Nat} {T : List Value} {D : List Nat} {A : Hp} {Q : Ex → St → Prop} {V : Value → Hp → Prop}
end
end Go.Ab.Grid
set_option maxRecDepth 100000
namespace Go.Ab.Grid
open Go Go.Ab
structure RI (P : SPar) (o : List Int) (q : List Nat) : Prop where
  len : o.length = P.m
  le : ∀ c, c < P.m → -1073741824 ≤ gi o c ∧ gi o c ≤ noneV
  out : ∀ c, c < P.m → gi o c = noneV ∨ P.Der c (gi o c)
  sea : ∀ c, c ∈ q → gi o c ≤ max (P.ht c) (-1073741824)
def Still (P : SPar) (o : List Int) (c d : Nat) : Prop := gi o c ≤ max (P.ht c) (gi o d)
theorem RI.start {P : SPar} : RI P (List.replicate P.m noneV) [] := by
  have hg : ∀ c, c < P.m → gi (List.replicate P.m noneV) c = noneV := fun c hc => by simp [gi, List.getD, hc]
  exact ⟨by simp, fun c hc => by rw [hg c hc]; decide, fun c hc => .inl (hg c hc), fun c hc => by cases hc⟩
theorem RI.low {P : SPar} {o : List Int} {q : List Nat} {c d : Nat} (hP : SParOk P) (h : RI P o q) (hc : c < P.m) (hd : d < P.m) (hnb : c ∈ P.nb d) : RI P (lowO P o c (gi o d)) q := by
  have hl := h.len
  have hco : c < o.length := by omega
  have hh := hP.ht c hc
  refine ⟨by rw [lowO_length, hl], fun a ha => ?_, fun a ha => ?_, fun a ha => ?_⟩
  · rw [lowO_get hco]
    split
    · rename_i hx
      have := (h.le c hc).2
      omega
    · exact h.le a ha
  · rw [lowO_get hco]
    split
    · rename_i hx
      obtain ⟨rfl, hlt⟩ := hx
      have hle := (h.le a hc).2
      rcases h.out d hd with hn | hder
      · rw [hn] at hlt
        omega
      · exact .inr (.step hder hnb)
    · exact h.out a ha
  · exact Int.le_trans (lowO_le hco a) (h.sea a ha)
theorem RI.fin {P : SPar} {o : List Int} (h : RI P o P.sea) (hcl : ∀ c, c < P.m → ∀ d, c ∈ P.nb d → d < P.m → Still P o c d) (hP : SParOk P) : SFin P o :=
  ⟨h.len, h.le, h.out, h.sea, fun a ha _ d hd => hcl d (hP.nb a ha d hd) a hd ha⟩
def Adv (o o' : List Int) (fl fl' : Bool) (C : Prop) : Prop := (o' = o ∧ fl' = fl ∧ C) ∨ (fl' = true ∧ potS o' < potS o)
theorem Adv.refl {o : List Int} {fl : Bool} {C : Prop} (h : C) : Adv o o fl fl C := .inl ⟨rfl, rfl, h⟩
theorem Adv.trans {o o1 o2 : List Int} {fl fl1 fl2 : Bool} {C C' C'' : Prop} (h : Adv o o1 fl fl1 C) (h' : Adv o1 o2 fl1 fl2 C') (hC : o1 = o → o2 = o1 → C → C' → C'') : Adv o o2 fl fl2 C'' := by
  rcases h with ⟨rfl, rfl, h⟩ | ⟨rfl, h⟩
  · rcases h' with ⟨rfl, rfl, h'⟩ | ⟨rfl, h'⟩
    · exact .inl ⟨rfl, rfl, hC rfl rfl h h'⟩
    · exact .inr ⟨rfl, h'⟩
  · rcases h' with ⟨rfl, rfl, _⟩ | ⟨rfl, h'⟩
    · exact .inr ⟨rfl, h⟩
    · exact .inr ⟨rfl, by omega⟩
theorem Adv.low {P : SPar} {o : List Int} {c d : Nat} {fl : Bool} (hP : SParOk P) (hl : o.length = P.m) (hc : c < P.m) : Adv o (lowO P o c (gi o d)) fl (if max (P.ht c) (gi o d) < gi o c then true else fl) (Still P o c d) := by
  by_cases h : max (P.ht c) (gi o d) < gi o c
  · rw [if_pos h]
    have hh := hP.ht c hc
    exact .inr ⟨rfl, potS_low (by omega) (by omega) h⟩
  · rw [if_neg h]
    refine .inl ⟨?_, rfl, ?_⟩
    · unfold lowO; rw [if_neg h]
    · unfold Still; omega
theorem SFin.uniq {P : SPar} {o o' : List Int} (hP : SParOk P) (h : SFin P o) (h' : SFin P o') : o = o' := by
  refine list_gi (by rw [h.len, h'.len]) fun c hc => ?_
  rw [h.len] at hc
  have h1 := h.le c hc
  have h2 := h'.le c hc
  rcases h.out c hc with a | a
  · rcases h'.out c hc with b | b
    · rw [a, b]
    · have := SFin.least hP h b
      omega
  · have p := SFin.least hP h' a
    rcases h'.out c hc with b | b
    · omega
    · have := SFin.least hP h b
      omega
end Go.Ab.Grid
set_option maxRecDepth 100000
namespace Go.Ab.Grid
open Go Go.Ab
section
variable {g : Nat} {rd : Option Nat} {T : List Value} {D : List Nat} {A : Hp} {Q : Ex → St → Prop} {V : Value → Hp → Prop}
end
end Go.Ab.Grid
set_option maxRecDepth 100000
namespace Go.Ab.Grid
open Go Go.Ab
theorem cell_uniq {w x y x' y' : Int} (hx : 0 ≤ x ∧ x < w) (hx' : 0 ≤ x' ∧ x' < w) (h : y * w + x = y' * w + x') : x = x' ∧ y = y' := by
  by_cases h1 : y < y'
  · have := Int.mul_le_mul_of_nonneg_right (show y + 1 ≤ y' by omega) (show 0 ≤ w by omega)
    rw [Int.add_mul] at this
    omega
  · by_cases h2 : y' < y
    · have := Int.mul_le_mul_of_nonneg_right (show y' + 1 ≤ y by omega) (show 0 ≤ w by omega)
      rw [Int.add_mul] at this
      omega
    · have : y = y' := by omega
      subst this
      omega
theorem nbrs_symm {w h c d : Int} (hw : 1 ≤ w) (hc : 0 ≤ c ∧ c < w * h) (hd : d ∈ nbrs w h c) : (0 ≤ d ∧ d < w * h) ∧ c ∈ nbrs w h d := by
  obtain ⟨p1, p2, p3, p4, p5⟩ := cell_xy hw hc
  rw [← refNb_eq hw hc] at hd
  unfold refNb at hd
  generalize c.tmod w = x at *
  generalize c.tdiv w = y at *
  have e1 : (y + 1) * w = y * w + w := by rw [Int.add_mul, Int.one_mul]
  have e2 : (y - 1) * w = y * w - w := by rw [Int.sub_mul, Int.one_mul]
  have key : ∀ x' y' : Int, 0 ≤ x' → x' < w → 0 ≤ y' → y' < h → d = y' * w + x' → (0 ≤ d ∧ d < w * h) ∧ d.tmod w = x' ∧ d.tdiv w = y' := by
    intro x' y' h1 h2 h3 h4 e
    have m1 := Int.mul_nonneg h3 (show 0 ≤ w by omega)
    have m2 := Int.mul_le_mul_of_nonneg_right (show y' ≤ h - 1 by omega) (show 0 ≤ w by omega)
    rw [Int.sub_mul, Int.one_mul] at m2
    have hb : 0 ≤ d ∧ d < w * h := by rw [Int.mul_comm w h]; omega
    obtain ⟨q1, q2, q3, q4, q5⟩ := cell_xy hw hb
    have := cell_uniq (x := d.tmod w) (y := d.tdiv w) (x' := x') (y' := y') ⟨q1, q2⟩ ⟨h1, h2⟩ (by rw [← q5]; exact e)
    exact ⟨hb, this.1, this.2⟩
  simp only [List.mem_append] at hd
  have fin : ∀ x' y' : Int, 0 ≤ x' → x' < w → 0 ≤ y' → y' < h → d = y' * w + x' → (x' + 1 < w ∧ c = d + 1 ∨ y' + 1 < h ∧ c = d + w ∨ 0 < x' ∧ c = d - 1 ∨ 0 < y' ∧ c = d - w) → (0 ≤ d ∧ d < w * h) ∧ c ∈ nbrs w h d := by
    intro x' y' h1 h2 h3 h4 e hh
    obtain ⟨k1, k2, k3⟩ := key x' y' h1 h2 h3 h4 e
    refine ⟨k1, ?_⟩
    rw [← refNb_eq hw k1]
    unfold refNb
    rw [k2, k3]
    simp only [List.mem_append]
    rcases hh with ⟨a, b⟩ | ⟨a, b⟩ | ⟨a, b⟩ | ⟨a, b⟩
    · rw [if_pos a]; exact .inl (.inl (.inl (by simp [b])))
    · rw [if_pos a]; exact .inl (.inl (.inr (by simp [b])))
    · rw [if_pos a]; exact .inl (.inr (by simp [b]))
    · rw [if_pos a]; exact .inr (by simp [b])
  rcases hd with ((hd | hd) | hd) | hd
  · split at hd
    · rw [List.mem_singleton] at hd
      exact fin (x + 1) y (by omega) (by omega) p3 p4 (by omega) (.inr (.inr (.inl ⟨by omega, by omega⟩)))
    · cases hd
  · split at hd
    · rw [List.mem_singleton] at hd
      exact fin x (y + 1) p1 p2 (by omega) (by omega) (by omega) (.inr (.inr (.inr ⟨by omega, by omega⟩)))
    · cases hd
  · split at hd
    · rw [List.mem_singleton] at hd
      exact fin (x - 1) y (by omega) (by omega) p3 p4 (by omega) (.inl ⟨by omega, by omega⟩)
    · cases hd
  · split at hd
    · rw [List.mem_singleton] at hd
      exact fin x (y - 1) p1 p2 (by omega) (by omega) (by omega) (.inr (.inl ⟨by omega, by omega⟩))
    · cases hd
section
variable {g : Nat} {rd : Option Nat} {T : List Value} {D : List Nat} {A : Hp} {Q : Ex → St → Prop} {V : Value → Hp → Prop}
end
end Go.Ab.Grid
set_option maxRecDepth 100000
namespace Go.Ab.Grid
open Go Go.Ab
structure RS (w h : Int) (m : Nat) (zs : List Int) (st : Int) (cur : List Int) : Prop where
  len : cur.length = m * 2
  up : ∀ c, c < m → (tPar true w h m zs st).Der c (gi cur (c * 2 + 1)) ∧ gi cur (c * 2 + 1) ≤ gi zs (c * 2 + 1)
  lo : ∀ c, c < m → (tPar false w h m zs st).Der c (-(gi cur (c * 2))) ∧ gi zs (c * 2) ≤ gi cur (c * 2)
  vd : ∀ c, c < m → gi cur (c * 2) ≤ gi cur (c * 2 + 1)
def Shut (st : Int) (cur : List Int) (c d : Nat) : Prop := gi cur (d * 2) - st ≤ gi cur (c * 2) ∧ gi cur (c * 2 + 1) ≤ gi cur (d * 2 + 1) + st
def met (st : Int) (cur : List Int) (c d : Nat) : List Int := wset cur c (gi cur (d * 2) - st) (gi cur (d * 2 + 1) + st)
def metLo (st : Int) (cur : List Int) (c d : Nat) : Int := max (gi cur (c * 2)) (gi cur (d * 2) - st)
def metHi (st : Int) (cur : List Int) (c d : Nat) : Int := min (gi cur (c * 2 + 1)) (gi cur (d * 2 + 1) + st)
section
variable {w h s st : Int} {m : Nat} {zs cur : List Int}
theorem RS.start (hE : gridE w h s m zs = 0) (hl : zs.length = m * 2) : RS w h m zs st zs := by
  have hv := (gridE_parts hE).2.2.2
  exact ⟨hl, fun c hc => ⟨.base hc, Int.le_refl _⟩, fun c hc => ⟨.base hc, Int.le_refl _⟩, fun c hc => (hv c hc).2.1⟩
theorem RS.der (hr : RS w h m zs st cur) {c d : Nat} (hc : c < m) (hd : d < m) (hnb : (c : Int) ∈ nbrs w h d) : (tPar true w h m zs st).Der c (metHi st cur c d) ∧ (tPar false w h m zs st).Der c (-(metLo st cur c d)) := by
  have hn : c ∈ (nbrs w h d).map Int.toNat := List.mem_map.2 ⟨(c : Int), hnb, by simp⟩
  refine ⟨?_, ?_⟩
  · unfold metHi
    by_cases h : gi cur (c * 2 + 1) ≤ gi cur (d * 2 + 1) + st
    · rw [Int.min_eq_left h]; exact (hr.up c hc).1
    · rw [Int.min_eq_right (by omega)]; exact (hr.up d hd).1.step hn
  · unfold metLo
    by_cases h : gi cur (d * 2) - st ≤ gi cur (c * 2)
    · rw [Int.max_eq_left h]; exact (hr.lo c hc).1
    · rw [Int.max_eq_right (by omega), show -(gi cur (d * 2) - st) = -(gi cur (d * 2)) + st by omega]; exact (hr.lo d hd).1.step hn
theorem met_lo {c d j : Nat} (hl : cur.length = m * 2) (hc : c < m) : gi (met st cur c d) (j * 2) = if j = c then metLo st cur c d else gi cur (j * 2) := wset_lo (by omega)
theorem met_hi {c d j : Nat} (hl : cur.length = m * 2) (hc : c < m) : gi (met st cur c d) (j * 2 + 1) = if j = c then metHi st cur c d else gi cur (j * 2 + 1) := wset_hi (by omega)
theorem met_len {c d : Nat} : (met st cur c d).length = cur.length := by simp [met, wset]
theorem RS.next (hr : RS w h m zs st cur) {c d : Nat} (hc : c < m) (hd : d < m) (hnb : (c : Int) ∈ nbrs w h d) (hf : metLo st cur c d ≤ metHi st cur c d) : RS w h m zs st (met st cur c d) := by
  have hl := hr.len
  obtain ⟨d1, d2⟩ := hr.der hc hd hnb
  refine ⟨by rw [met_len, hl], fun j hj => ?_, fun j hj => ?_, fun j hj => ?_⟩
  · rw [met_hi hl hc]
    by_cases h : j = c
    · subst h
      rw [if_pos rfl]
      exact ⟨d1, by have := (hr.up j hj).2; unfold metHi; omega⟩
    · rw [if_neg h]; exact hr.up j hj
  · rw [met_lo hl hc]
    by_cases h : j = c
    · subst h
      rw [if_pos rfl]
      exact ⟨d2, by have := (hr.lo j hj).2; unfold metLo; omega⟩
    · rw [if_neg h]; exact hr.lo j hj
  · rw [met_lo hl hc, met_hi hl hc]
    by_cases h : j = c
    · rw [if_pos h, if_pos h]; exact hf
    · rw [if_neg h, if_neg h]; exact hr.vd j hj
theorem RS.same (hr : RS w h m zs st cur) {c d : Nat} (hc : c < m) (h1 : metLo st cur c d = gi cur (c * 2)) (h2 : metHi st cur c d = gi cur (c * 2 + 1)) : met st cur c d = cur ∧ Shut st cur c d := by
  have hl := hr.len
  refine ⟨list_gi met_len fun i hi => ?_, by unfold metLo at h1; unfold metHi at h2; unfold Shut; omega⟩
  rw [met_len, hl] at hi
  obtain ⟨j, hj⟩ : ∃ j, i = j * 2 ∨ i = j * 2 + 1 := ⟨i / 2, by omega⟩
  rcases hj with rfl | rfl
  · rw [met_lo hl hc]
    split
    · rename_i h; subst h; exact h1
    · rfl
  · rw [met_hi hl hc]
    split
    · rename_i h; subst h; exact h2
    · rfl
theorem RS.fin (hE : gridE w h s m zs = 0) (hr : RS w h m zs st cur) (hs : ∀ c d : Nat, c < m → (d : Int) ∈ nbrs w h c → Shut st cur c d) : TigZ w h m zs st cur := by
  obtain ⟨hw, hh, hmw, hv⟩ := gridE_parts hE
  have g1 : ∀ (f : Nat → Int) (j : Nat), j < m → gi ((List.range m).map f) j = f j := fun f j hj => by simp [gi, List.getD, hj]
  have sym : ∀ a d : Nat, a < m → d ∈ (nbrs w h a).map Int.toNat → d < m ∧ (a : Int) ∈ nbrs w h d := fun a d ha hd => by
    obtain ⟨x, hx, hxd⟩ := List.mem_map.1 hd
    obtain ⟨⟨x0, x1⟩, x2⟩ := nbrs_symm hw.1 ⟨show (0 : Int) ≤ (a : Int) by omega, by omega⟩ hx
    have : x = (d : Int) := by omega
    subst this
    exact ⟨by omega, x2⟩
  refine ⟨hr.len, (List.range m).map fun c => gi cur (c * 2 + 1), (List.range m).map fun c => -(gi cur (c * 2)), ⟨by simp [tPar], fun c hc => ?_, fun c hc => ?_, fun a ha d hd => ?_⟩, ⟨by simp [tPar], fun c hc => ?_, fun c hc => ?_, fun a ha d hd => ?_⟩, fun j hj => ?_⟩
  · rw [g1 _ c hc]; exact (hr.up c hc).2
  · rw [g1 _ c hc]; exact (hr.up c hc).1
  · obtain ⟨hdm, hs'⟩ := sym a d ha hd
    rw [g1 _ a ha, g1 _ d hdm]
    exact (hs d a hdm hs').2
  · rw [g1 _ c hc]
    have := (hr.lo c hc).2
    show -(gi cur (c * 2)) ≤ -(gi zs (c * 2))
    omega
  · rw [g1 _ c hc]; exact (hr.lo c hc).1
  · obtain ⟨hdm, hs'⟩ := sym a d ha hd
    rw [g1 _ a ha, g1 _ d hdm]
    have := (hs d a hdm hs').1
    show -(gi cur (d * 2)) ≤ -(gi cur (a * 2)) + st
    omega
  · rw [g1 _ j hj, g1 _ j hj]
    omega
end
end Go.Ab.Grid
set_option maxRecDepth 100000
namespace Go.Ab.Grid
open Go Go.Ab
structure RC (g : Nat) (A0 : Hp) (X2 X4 X7 Y cap m : Nat) (w h s st : Int) (zs : List Int) (sl : Value) : Prop where
  hE : gridE w h s m zs = 0
  st : 0 ≤ st ∧ st ≤ 2400000
  x2 : A0.get X2 = some (boxG w h s sl)
  x4 : A0.get X4 = some zeroG
  x7 : A0.get X7 = some (boxG w h s (.slice (some ⟨Y, 0, some 2⟩) m cap))
  ne : X2 ≠ Y ∧ X4 ≠ Y ∧ X7 ≠ Y
  yn : Y < A0.n
  g : g ≤ Y ∧ g ≤ X4
  zl : zs.length = m * 2
section
variable {g : Nat} {rd : Option Nat} {T : List Value} {D : List Nat} {A : Hp} {Q : Ex → St → Prop} {V : Value → Hp → Prop}
variable {A0 : Hp} {X2 X4 X7 Y cap m : Nat} {w h s st : Int} {zs : List Int} {sl : Value}
end
end Go.Ab.Grid
set_option maxRecDepth 100000
namespace Go.Ab.Grid
open Go Go.Ab
section
variable {g : Nat} {rd : Option Nat} {T : List Value} {D : List Nat} {A : Hp} {Q : Ex → St → Prop} {V : Value → Hp → Prop}
variable {A0 : Hp} {X2 X4 X7 Y cap m : Nat} {w h s st : Int} {zs : List Int} {sl : Value}
end
end Go.Ab.Grid
set_option maxRecDepth 100000
namespace Go.Ab.Grid
open Go Go.Ab
def QS (N : Nat) (A : Hp) (q : List Nat) (sv : Value) : Prop :=
  (sv = .slice none 0 0 ∧ q = []) ∨ ∃ b off c cs, sv = .slice (some ⟨b, off, some 1⟩) q.length c ∧ A.get b = some (.cells cs false) ∧ N ≤ b ∧ off + q.length = cs.length ∧ cs.drop off = ints (castS q) ∧ q.length ≤ c
theorem QS.len {N : Nat} {A : Hp} {q : List Nat} {sv : Value} (h : QS N A q sv) : lenV sv = some (.int .i64 q.length) := by
  rcases h with ⟨rfl, rfl⟩ | ⟨b, off, c, cs, rfl, _⟩ <;> rfl
theorem QS.mono {N : Nat} {A A' : Hp} {q : List Nat} {sv : Value} (h : QS N A q sv) (hA : ∀ x, blkOf sv = some x → x < A.n → A'.get x = A.get x) : QS N A' q sv := by
  rcases h with h | ⟨b, off, c, cs, rfl, h2, h3⟩
  · exact .inl h
  · exact .inr ⟨b, off, c, cs, rfl, by rw [hA b rfl (Hp.lt_of_get h2)]; exact h2, h3⟩
theorem QS.blk {N : Nat} {A : Hp} {q : List Nat} {sv : Value} (h : QS N A q sv) {z : Nat} (hz : blkOf sv = some z) : N ≤ z ∧ z < A.n := by
  rcases h with ⟨rfl, _⟩ | ⟨b, off, c, cs, rfl, h2, h3, _⟩
  · cases hz
  · cases hz
    exact ⟨h3, Hp.lt_of_get h2⟩
theorem QS.push {g N y x : Nat} {A : Hp} {q : List Nat} {sv : Value} {ro : Bool} (h : QS N A q sv) (hg : g ≤ N) (hN : N ≤ A.n) (hy : A.get y = some (.cells [.int .i64 x] ro)) (hq : q.length < 1000000) :
    ∃ A', appendA g A 1 8 sv (.slice (some ⟨y, 0, some 1⟩) 1 1) = some (.slice (some ⟨A.n, 0, some 1⟩) (q.length + 1) (q.length + 1), A') ∧ QS N A' (q ++ [x]) (.slice (some ⟨A.n, 0, some 1⟩) (q.length + 1) (q.length + 1)) ∧ (∀ z, z < A.n → blkOf sv ≠ some z → A'.get z = A.get z) ∧ A'.n = A.n + 1 := by
  have hcells : cellsAt A (1 * 1) (.slice (some ⟨y, 0, some 1⟩) 1 1) = some [.int .i64 x] := by
    simp only [cellsAt, hy]
    rfl
  have hroom : (q.length + 1) * 8 ≤ room ∧ q.length + 1 ≤ room := by unfold room; omega
  rcases h with ⟨rfl, rfl⟩ | ⟨b, off, c, cs, rfl, hb, hNb, hk, hd, hc⟩
  · refine ⟨A.push (.cells [.int .i64 x] false), ?_, .inr ⟨A.n, 0, 1, [.int .i64 x], rfl, get_push_new, hN, rfl, rfl, by simp⟩, fun z hz _ => get_push_old hz, rfl⟩
    unfold appendA
    simp only [hcells]
    rw [if_pos ⟨rfl, by decide⟩]
    simp only [if_neg (show ¬ (1 = 0) by decide)]
    rw [if_pos ⟨by unfold room; omega, by unfold room; omega⟩]
    rfl
  · refine ⟨(A.set b none).push (.cells (cs.drop off ++ [.int .i64 x]) false), ?_, .inr ⟨A.n, 0, q.length + 1, cs.drop off ++ [.int .i64 x], by simp, by rw [Hp.get_push, Hp.n_set, if_pos rfl], hN, by simp; omega, by rw [hd]; simp [castS, ints], by simp⟩,
      fun z hz hne => ?_, rfl⟩
    · unfold appendA
      simp only [hcells]
      rw [if_pos ⟨rfl, by decide⟩]
      simp only [if_neg (show ¬ (1 = 0) by decide), hb]
      rw [if_pos ⟨by omega, hroom.1, hroom.2, trivial⟩, if_pos (by omega)]
    · have hne' : z ≠ b := fun h => hne (by rw [h]; rfl)
      rw [Hp.get_push, Hp.n_set, if_neg (by omega), Hp.get_set hb, if_neg hne']
theorem QS.head {N : Nat} {A : Hp} {q : List Nat} {x : Nat} {sv : Value} (h : QS N A (x :: q) sv) : ∃ b off c cs, sv = .slice (some ⟨b, off, some 1⟩) (q.length + 1) c ∧ A.get b = some (.cells cs false) ∧ cellAt cs off = some (.int .i64 x) ∧
    QS N A q (.slice (some ⟨b, off + 1, some 1⟩) q.length (Max.max (q.length + 1) c - 1)) := by
  rcases h with ⟨_, h⟩ | ⟨b, off, c, cs, rfl, hb, hNb, hk, hd, hc⟩
  · cases h
  · have hl : off < cs.length := by rw [List.length_cons] at hk; omega
    have h1 := List.drop_eq_getElem_cons hl
    rw [h1] at hd
    have h2 : cs[off] = .int .i64 x ∧ cs.drop (off + 1) = ints (castS q) := by
      simp only [castS, ints, List.map_cons, List.cons.injEq] at hd
      exact hd
    refine ⟨b, off, c, cs, rfl, hb, ?_, .inr ⟨b, off + 1, _, cs, rfl, hb, hNb, by rw [List.length_cons] at hk; omega, h2.2, by rw [List.length_cons] at hc; omega⟩⟩
    unfold cellAt
    rw [List.getElem?_eq_getElem hl, h2.1]
section
variable {g : Nat} {rd : Option Nat} {T : List Value} {D : List Nat} {A : Hp} {Q : Ex → St → Prop} {V : Value → Hp → Prop}
theorem sq_le {a : Int} (h1 : -1000 ≤ a) (h2 : a ≤ 1000) : 0 ≤ a * a ∧ a * a ≤ 1000000 := by
  have a1 : 0 ≤ a * a := by
    rcases Int.le_total 0 a with h | h
    · exact Int.mul_nonneg h h
    · have := Int.mul_nonneg (show 0 ≤ -a by omega) (show 0 ≤ -a by omega)
      rw [Int.neg_mul_neg] at this
      exact this
  have a2 := Int.mul_nonneg (show 0 ≤ 1000 - a by omega) (show 0 ≤ 1000 + a by omega)
  have e : (1000 - a) * (1000 + a) = 1000000 - a * a := by
    rw [Int.sub_mul, Int.mul_add, Int.mul_add, Int.mul_comm a 1000]
    omega
  omega
theorem loop319 {A0 : Hp} {w h s c : Int} {sl : Value} {X2 N m : Nat} (hw : 1 ≤ w ∧ w ≤ 24) (hc : 0 ≤ c ∧ c < 1000) (hm : m < 1000) (hX : A0.get X2 = some (.cells [.int .i64 w, .int .i64 h, .int .i64 s, sl] false)) (hXN : X2 < N) (hg : g ≤ N)
    (hQ : ∀ T' A' sv, (∀ z, z < N → A'.get z = A0.get z) → N ≤ A'.n → AccS N A' 1 (ints (nearI w c m)) sv → tget T' 5 = sv → Q (.exit 0) ⟨T', D, A'⟩) :
    ∀ (k i : Nat) {T : List Value} {A : Hp} (sv : Value), i + k = m → (∀ z, z < N → A.get z = A0.get z) → N ≤ A.n → AccS N A 1 (ints (nearI w c i)) sv → tget T 1 = .int .i64 c → tget T 2 = .pointer (some ⟨X2, 0, none⟩) → tget T 5 = sv → tget T 11 = .int .i64 m → tget T 12 = .int .i64 i → W AP KL g rd (.loop body319) ⟨T, D, A⟩ Q := by
  intro k
  induction k with
  | zero =>
    intro i T A sv hi hb hNA hacc t1 t2 t5 t11 t12
    have : i = m := by omega
    subst this
    rw [W_loop]
    simp (disch := as_aux_lemma => first | omega | simp only [hDs] <;> omega | simp [isCell]) [hRs, takeMarks, resA, resAll, resOne, Value.cells, body319, t11, t12]
    exact hQ _ _ sv hb hNA hacc (by simp [t5])
  | succ k ih =>
    intro i T A sv hi hb hNA hacc t1 t2 t5 t11 t12
    have e5 : wr .i64 ((i : Int) + 1) = ((i + 1 : Nat) : Int) := by rw [wrId (by omega) (by omega)]; simp
    have aX : A.get X2 = some (.cells [.int .i64 w, .int .i64 h, .int .i64 s, sl] false) := by rw [hb _ hXN]; exact hX
    have r1 : 0 ≤ c.tmod w ∧ c.tmod w < 24 := ⟨Int.tmod_nonneg _ hc.1, by have := Int.tmod_lt_of_pos c (show 0 < w by omega); omega⟩
    have r2 : 0 ≤ (i : Int).tmod w ∧ (i : Int).tmod w < 24 := ⟨Int.tmod_nonneg _ (by omega), by have := Int.tmod_lt_of_pos (i : Int) (show 0 < w by omega); omega⟩
    have r3 : 0 ≤ c.tdiv w ∧ c.tdiv w ≤ c := ⟨Int.tdiv_nonneg hc.1 (by omega), Int.tdiv_le_self _ hc.1⟩
    have r4 : 0 ≤ (i : Int).tdiv w ∧ (i : Int).tdiv w ≤ i := ⟨Int.tdiv_nonneg (by omega) (by omega), Int.tdiv_le_self _ (by omega)⟩
    obtain ⟨a, ha⟩ : ∃ a, a = c.tmod w - (i : Int).tmod w := ⟨_, rfl⟩
    obtain ⟨b, hbb⟩ : ∃ b, b = c.tdiv w - (i : Int).tdiv w := ⟨_, rfl⟩
    have s1 := sq_le (a := a) (by omega) (by omega)
    have s2 := sq_le (a := b) (by omega) (by omega)
    have q1 : wr .i64 (c.tdiv w) = c.tdiv w := wrId (by omega) (by omega)
    have q2 : wr .i64 ((i : Int).tdiv w) = (i : Int).tdiv w := wrId (by omega) (by omega)
    have q3 : wr .i64 (c.tmod w - (i : Int).tmod w) = a := by rw [ha]; exact wrId (by omega) (by omega)
    have q4 : wr .i64 (c.tdiv w - (i : Int).tdiv w) = b := by rw [hbb]; exact wrId (by omega) (by omega)
    have ed : (i : Int).tdiv w = (i : Int) / w := Int.tdiv_eq_ediv_of_nonneg (by omega)
    have q2' : wr .i64 ((i : Int) / w) = (i : Int) / w := by rw [← ed]; exact q2
    have q4' : wr .i64 (c.tdiv w - (i : Int) / w) = b := by rw [← ed]; exact q4
    have q5 : wr .i64 (a * a) = a * a := wrId (by omega) (by omega)
    have q6 : wr .i64 (b * b) = b * b := wrId (by omega) (by omega)
    have q7 : wr .i64 (a * a + b * b) = a * a + b * b := wrId (by omega) (by omega)
    have hnr : nrC w c i = decide (a * a + b * b = 1) := by unfold nrC; rw [ha, hbb]
    rw [W_loop]
    by_cases hn : a * a + b * b = 1
    · obtain ⟨sv', A1, a1, a2, a3, a4⟩ := append_acc (g := g) (bytes := 8) (y := A.n) (A := A.push (.cells [.int .i64 (i : Int)] false)) (new := [.int .i64 (i : Int)]) (ro := false) (n := (nearI w c i).length) (hacc.mono (Ext'.push A _).2) (by omega) (by simp; omega) get_push_new rfl (by decide) rfl (by simp) (by have := nearI_le (w := w) (c := c) (n := i); unfold room; omega)
      rw [show ints (nearI w c i) ++ [.int .i64 (i : Int)] = ints (nearI w c (i + 1)) by rw [nearI, hnr, if_pos (by simpa using hn), ints_append]; rfl] at a2
      simp (disch := as_aux_lemma => first | omega | simp only [hDs] <;> omega | simp [isCell]) [hRs, takeMarks, resA, resAll, resOne, Value.cells, body319, t1, t2, t5, t11, t12, show ((i : Int) < m) by omega, aX, binA_rem (show w ≠ 0 by omega), binA_quo (show w ≠ 0 by omega), q1, q2', q3, q4', q5, q6, q7, hn, show wr .i64 1 = 1 by decide, slitA, fillA, setRange, zeros, a1, e5]
      refine ih (i + 1) sv' (by omega) (fun z hz => by rw [a3 z hz, get_push_old (by omega), hb z hz]) (by rw [a4]; simp; omega) a2 ?_ ?_ ?_ ?_ ?_
      all_goals simp [t1, t2, t11]
    · simp (disch := as_aux_lemma => first | omega | simp only [hDs] <;> omega | simp [isCell]) [hRs, takeMarks, resA, resAll, resOne, Value.cells, body319, t1, t2, t5, t11, t12, show ((i : Int) < m) by omega, aX, binA_rem (show w ≠ 0 by omega), binA_quo (show w ≠ 0 by omega), q1, q2', q3, q4', q5, q6, q7, hn, e5]
      refine ih (i + 1) sv (by omega) hb hNA (by rw [nearI, hnr, if_neg (by simpa using hn), List.append_nil]; exact hacc) ?_ ?_ ?_ ?_ ?_
      all_goals simp [t1, t2, t5, t11]
theorem w319 {w h s c : Int} {sl : Value} {m : Nat} (hw : 1 ≤ w ∧ w ≤ 24) (hc : 0 ≤ c ∧ c < 1000) (hm : m < 1000) (hl : lenV sl = some (.int .i64 m)) (hg : g ≤ A.n)
    (hV : ∀ A' sv, Ext' A A' → AccS A.n A' 1 (ints (nearI w c m)) sv → V sv A') : WF AP KL g 319 [gridV w h s sl, .int .i64 c] A V := by
  rw [WF_body (show KL 319 = none from rfl) (show AP 319 = some F319 from rfl)]
  obtain ⟨B, hB⟩ : ∃ B, B = A.push (.cells [.int .i64 w, .int .i64 h, .int .i64 s, sl] false) := ⟨_, rfl⟩
  have eB : Ext' A B := by rw [hB]; exact Ext'.push _ _
  have nB : B.n = A.n + 1 := by rw [hB]; rfl
  have b2 : B.get A.n = some (.cells [.int .i64 w, .int .i64 h, .int .i64 s, sl] false) := by rw [hB]; exact get_push_new
  simp (disch := as_aux_lemma => first | omega | simp only [hDs] <;> omega | simp [isCell]) [hRs, takeMarks, resA, resAll, resOne, Value.cells, F319, gridV, ← hB, b2, hl]
  refine loop319 (A0 := B) (N := B.n) (X2 := A.n) (m := m) (c := c) (w := w) (h := h) (s := s) hw hc hm b2 (by omega) (by omega) (fun T' A' sv hb hNA hacc t5 => ?_) m 0 _ (by omega) (fun _ _ => rfl) (Nat.le_refl _) AccS.nil ?_ ?_ ?_ ?_ ?_
  · simp (disch := as_aux_lemma => first | omega | simp only [hDs] <;> omega | simp [isCell]) [hRs, takeMarks, resA, resAll, resOne, Value.cells, t5]
    exact hV A' sv ⟨by omega, fun z hz => by rw [hb z (by omega), eB.2 z hz]⟩ (hacc.weaken (by omega))
  all_goals simp
end
end Go.Ab.Grid
set_option maxRecDepth 100000
namespace Go.Ab.Grid
open Go Go.Ab
def body318a : ACode := (.seq
 (.ops [
oB 15 .lss 14 13])
 (.seq
 (.cond (.t 15)
 .skip
 (.exit 0))
 (.seq
 (.block 1
 (.seq
 (.ops [
oM 16 14,
oM 7 16])
 (.seq
 (.ops [
oD 17 2 4,
oM 18 7,
oA 19 319 [.t 17, .t 18] false,
oP 20 (.len (.t 19)),
oP 21 (.move (oK 0))])
 (.block 2
 (.loop
 (.seq
 (.ops [
oB 22 .lss 21 20])
 (.seq
 (.cond (.t 22)
 .skip
 (.exit 2))
 (.seq
 (.block 3
 (.seq
 (.ops [
oI 23 19 21 1,
oL 24 23,
oM 9 24])
 (.seq
 (.ops [
oM 25 0,
oM 26 7,
oI 27 25 26 2,
oF 28 27 1,
oL 29 28,
oM 30 0,
oM 31 9,
oI 32 30 31 2,
oF 33 32 1,
oL 34 33,
oM 10 29,
oM 11 34])
 (.seq
 (.seq
 (.ops [
oM 35 1])
 (.cond (.t 35)
 (.ops [
oM 36 0,
oM 37 7,
oI 38 36 37 2,
oF 39 38 0,
oL 40 39,
oM 41 0,
oM 42 9,
oI 43 41 42 2,
oF 44 43 0,
oL 45 44,
oM 10 40,
oM 11 45])
 .skip))
 (.seq
 (.ops [
oM 46 10,
oM 47 11,
oB 48 .sub 46 47,
oL 49 3,
oB 50 .gtr 48 49])
 (.cond (.t 50)
 (.seq
 (.ops [
oP 6 (.move (.k (.bool false)))])
 .ret)
 .skip))))))
 (.ops [
oC 51 .add 21 1,
oM 21 51])))))))))
 (.ops [
oC 52 .add 14 1,
oM 14 52]))))
def kv (low : Bool) (Z : List Int) (c : Nat) : Int := if low then gi Z (c * 2) else gi Z (c * 2 + 1)
def Kp (w : Int) (m : Nat) (Z : List Int) (d : Int) (low : Bool) : Prop := ∀ c k : Nat, c < m → k < m → nrC w c k = true → kv low Z c - kv low Z k ≤ d
section
variable {g : Nat} {rd : Option Nat} {T : List Value} {D : List Nat} {A : Hp} {Q : Ex → St → Prop} {V : Value → Hp → Prop}
variable {w h s d : Int} {m XG XD : Nat} {Z : List Int} {sx sg : Value} {low : Bool}
theorem loop318b {c : Nat} {nv : Value} {T0 : List Value} (hcm : c < m) (hm : m < 1000) (hZ : RdS A 2 m (ints Z) sx) (hZr : ∀ i, -1200000 ≤ gi Z i ∧ gi Z i ≤ 1200000) (hXD : A.get XD = some (.cells [.int .i64 d] false)) (hnv : RdS A 1 (nearI w c m).length (ints (nearI w c m)) nv)
    (t0 : tget T0 0 = sx) (t1 : tget T0 1 = .bool low) (t3 : tget T0 3 = .pointer (some ⟨XD, 0, none⟩)) (t7 : tget T0 7 = .int .i64 c)
    (hQ : ∀ T', (∀ k : Nat, k < m → nrC w c k = true → kv low Z c - kv low Z k ≤ d) → (∀ t, t = 0 ∨ t = 1 ∨ t = 2 ∨ t = 3 ∨ t = 7 ∨ t = 13 ∨ t = 14 → tget T' t = tget T0 t) → Q (.exit 2) ⟨T', D, A⟩)
    (hR : ∀ T', ¬ Kp w m Z d low → tget T' 6 = .bool false → Q .ret ⟨T', D, A⟩) :
    ∀ (k i : Nat) {T : List Value}, i + k = (nearI w c m).length → (∀ x, x ∈ (nearI w c m).take i → kv low Z c - kv low Z x.toNat ≤ d) → (∀ t, t = 0 ∨ t = 1 ∨ t = 2 ∨ t = 3 ∨ t = 7 ∨ t = 13 ∨ t = 14 → tget T t = tget T0 t) → tget T 19 = nv → tget T 20 = .int .i64 (nearI w c m).length → tget T 21 = .int .i64 i → W AP KL g rd (.loop body318b) ⟨T, D, A⟩ Q := by
  intro k
  have hzl : Z.length = m * 2 := by have := hZ.1; simpa using this
  have hLl : (nearI w c m).length ≤ m := nearI_le
  induction k with
  | zero =>
    intro i T hi hp hk t19 t20 t21
    have : i = (nearI w c m).length := by omega
    subst this
    rw [List.take_length] at hp
    rw [W_loop]
    simp (disch := as_aux_lemma => first | omega | simp only [hDs] <;> omega | simp [isCell]) [hRs, takeMarks, resA, resAll, resOne, Value.cells, body318b, t20, t21]
    refine hQ _ (fun k hkm hn => ?_) fun t ht => ?_
    · exact hp (k : Int) (nearI_mem.2 ⟨k, hkm, rfl, hn⟩)
    · rw [← hk t ht]
      rcases ht with rfl | rfl | rfl | rfl | rfl | rfl | rfl <;> simp
  | succ k ih =>
    intro i T hi hp hk t19 t20 t21
    have hin : i < (nearI w c m).length := by omega
    have e5 : wr .i64 ((i : Int) + 1) = ((i + 1 : Nat) : Int) := by rw [wrId (by omega) (by omega)]; simp
    have hgi : gi (nearI w c m) i = (nearI w c m)[i] := by simp [gi, List.getD, hin]
    obtain ⟨k', hk1, hk2, hk3⟩ := nearI_mem.1 (show gi (nearI w c m) i ∈ nearI w c m by rw [hgi]; exact List.getElem_mem _)
    have tk : (nearI w c m).take (i + 1) = (nearI w c m).take i ++ [(k' : Int)] := by
      rw [List.take_add_one, List.getElem?_eq_getElem hin, ← hgi, hk2]; rfl
    obtain ⟨nb, nc, nr, hnv', hnb⟩ := hnv.at hin
    obtain ⟨zb, zc, zr, hZ', hzb⟩ := hZ.at hcm
    have k0 := ((hk 0 (by simp)).trans t0).trans hZ'
    have k1 := (hk 1 (by simp)).trans t1
    have k3 := (hk 3 (by simp)).trans t3
    have k7 := (hk 7 (by simp)).trans t7
    have k19 := t19.trans hnv'
    have r1 := hZr (c * 2)
    have r2 := hZr (c * 2 + 1)
    have r3 := hZr (k' * 2)
    have r4 := hZr (k' * 2 + 1)
    have keep : ∀ {T' : List Value}, (tget T' 0 = tget T 0 ∧ tget T' 1 = tget T 1 ∧ tget T' 2 = tget T 2 ∧ tget T' 3 = tget T 3 ∧ tget T' 7 = tget T 7 ∧ tget T' 13 = tget T 13 ∧ tget T' 14 = tget T 14) → ∀ t, t = 0 ∨ t = 1 ∨ t = 2 ∨ t = 3 ∨ t = 7 ∨ t = 13 ∨ t = 14 → tget T' t = tget T0 t := by
      intro T' h t ht
      rw [← hk t ht]
      rcases ht with rfl | rfl | rfl | rfl | rfl | rfl | rfl <;> simp [h]
    have nxt : kv low Z c - kv low Z k' ≤ d → ∀ x, x ∈ (nearI w c m).take (i + 1) → kv low Z c - kv low Z x.toNat ≤ d := fun h x hx => by
      rw [tk] at hx
      rcases List.mem_append.1 hx with h1 | h1
      · exact hp x h1
      · rw [List.mem_singleton] at h1
        subst h1
        simpa using h
    rw [W_loop]
    cases low with
    | true =>
      have e1 : wr .i64 (gi Z (c * 2) - gi Z (k' * 2)) = gi Z (c * 2) - gi Z (k' * 2) := wrId (by omega) (by omega)
      by_cases hgt : d < gi Z (c * 2) - gi Z (k' * 2)
      · simp (disch := as_aux_lemma => first | omega | simp only [hDs] <;> omega | simp [isCell]) [hRs, takeMarks, resA, resAll, resOne, Value.cells, body318b, k0, k1, k3, k7, k19, t20, t21, show ((i : Int) < ((nearI w c m).length : Int)) by omega, hin, idxSA_ok, hnb, ints_get hin, hk2, hcm, hk1, hzb, ints_get (show c * 2 < Z.length by omega), ints_get (show c * 2 + 1 < Z.length by omega), ints_get (show k' * 2 < Z.length by omega), ints_get (show k' * 2 + 1 < Z.length by omega), e1, hXD, hgt]
        refine hR _ (fun h => ?_) (by simp)
        have := h c k' hcm hk1 hk3
        simp only [kv, if_pos] at this
        omega
      · simp (disch := as_aux_lemma => first | omega | simp only [hDs] <;> omega | simp [isCell]) [hRs, takeMarks, resA, resAll, resOne, Value.cells, body318b, k0, k1, k3, k7, k19, t20, t21, show ((i : Int) < ((nearI w c m).length : Int)) by omega, hin, idxSA_ok, hnb, ints_get hin, hk2, hcm, hk1, hzb, ints_get (show c * 2 < Z.length by omega), ints_get (show c * 2 + 1 < Z.length by omega), ints_get (show k' * 2 < Z.length by omega), ints_get (show k' * 2 + 1 < Z.length by omega), e1, hXD, hgt, e5]
        refine ih (i + 1) (by omega) (nxt (by simp only [kv, if_pos]; omega)) (keep (by simp)) ?_ ?_ ?_
        all_goals simp [t19, t20]
    | false =>
      have e1 : wr .i64 (gi Z (c * 2 + 1) - gi Z (k' * 2 + 1)) = gi Z (c * 2 + 1) - gi Z (k' * 2 + 1) := wrId (by omega) (by omega)
      by_cases hgt : d < gi Z (c * 2 + 1) - gi Z (k' * 2 + 1)
      · simp (disch := as_aux_lemma => first | omega | simp only [hDs] <;> omega | simp [isCell]) [hRs, takeMarks, resA, resAll, resOne, Value.cells, body318b, k0, k1, k3, k7, k19, t20, t21, show ((i : Int) < ((nearI w c m).length : Int)) by omega, hin, idxSA_ok, hnb, ints_get hin, hk2, hcm, hk1, hzb, ints_get (show c * 2 + 1 < Z.length by omega), ints_get (show k' * 2 + 1 < Z.length by omega), e1, hXD, hgt]
        refine hR _ (fun h => ?_) (by simp)
        have := h c k' hcm hk1 hk3
        simp [kv] at this
        omega
      · simp (disch := as_aux_lemma => first | omega | simp only [hDs] <;> omega | simp [isCell]) [hRs, takeMarks, resA, resAll, resOne, Value.cells, body318b, k0, k1, k3, k7, k19, t20, t21, show ((i : Int) < ((nearI w c m).length : Int)) by omega, hin, idxSA_ok, hnb, ints_get hin, hk2, hcm, hk1, hzb, ints_get (show c * 2 + 1 < Z.length by omega), ints_get (show k' * 2 + 1 < Z.length by omega), e1, hXD, hgt, e5]
        refine ih (i + 1) (by omega) (nxt (by simp [kv]; omega)) (keep (by simp)) ?_ ?_ ?_
        all_goals simp [t19, t20]
theorem loop318a {A0 : Hp} {T0 : List Value} (hm : m < 1000) (hw : 1 ≤ w ∧ w ≤ 24) (hg : g ≤ A0.n) (hZ : RdS A0 2 m (ints Z) sx) (hZr : ∀ i, -1200000 ≤ gi Z i ∧ gi Z i ≤ 1200000) (hXG : A0.get XG = some (boxG w h s sg)) (hsg : lenV sg = some (.int .i64 m)) (hXD : A0.get XD = some (.cells [.int .i64 d] false))
    (t0 : tget T0 0 = sx) (t1 : tget T0 1 = .bool low) (t2 : tget T0 2 = .pointer (some ⟨XG, 0, none⟩)) (t3 : tget T0 3 = .pointer (some ⟨XD, 0, none⟩)) (t13 : tget T0 13 = .int .i64 m)
    (hQ : ∀ T' A', Ext' A0 A' → Kp w m Z d low → Q (.exit 0) ⟨T', D, A'⟩)
    (hR : ∀ T' A', Ext' A0 A' → ¬ Kp w m Z d low → tget T' 6 = .bool false → Q .ret ⟨T', D, A'⟩) :
    ∀ (k i : Nat) {T : List Value} {A : Hp}, i + k = m → Ext' A0 A → (∀ c k : Nat, c < i → k < m → nrC w c k = true → kv low Z c - kv low Z k ≤ d) → (∀ t, t = 0 ∨ t = 1 ∨ t = 2 ∨ t = 3 ∨ t = 13 → tget T t = tget T0 t) → tget T 14 = .int .i64 i → W AP KL g rd (.loop body318a) ⟨T, D, A⟩ Q := by
  intro k
  induction k with
  | zero =>
    intro i T A hi e hp hk t14
    have : i = m := by omega
    subst this
    have k13 := (hk 13 (by simp)).trans t13
    rw [W_loop]
    simp (disch := as_aux_lemma => first | omega | simp only [hDs] <;> omega | simp [isCell]) [hRs, takeMarks, resA, resAll, resOne, Value.cells, body318a, k13, t14]
    exact hQ _ _ e fun c k hc hk' hn => hp c k hc hk' hn
  | succ k ih =>
    intro i T A hi e hp hk t14
    have him : i < m := by omega
    have e5 : wr .i64 ((i : Int) + 1) = ((i + 1 : Nat) : Int) := by rw [wrId (by omega) (by omega)]; simp
    have k0 := (hk 0 (by simp)).trans t0
    have k1 := (hk 1 (by simp)).trans t1
    have k2 := (hk 2 (by simp)).trans t2
    have k3 := (hk 3 (by simp)).trans t3
    have k13 := (hk 13 (by simp)).trans t13
    have nA := e.1
    rw [W_loop]
    simp (disch := as_aux_lemma => first | omega | simp only [hDs] <;> omega | simp [isCell]) [hRs, takeMarks, resA, resAll, resOne, Value.cells, body318a, k2, k13, t14, show ((i : Int) < m) by omega, him, e.get hXG, boxG]
    refine w319 (w := w) (h := h) (s := s) (sl := sg) (m := m) hw ⟨by omega, by omega⟩ (by omega) hsg (by omega) fun A1 nv e1 hacc => ?_
    have hnv : RdS A1 1 (nearI w i m).length (ints (nearI w i m)) nv := hacc.rd (by simp) (by decide)
    have hnl := hnv.len
    have e01 := e.trans e1
    simp (disch := as_aux_lemma => first | omega | simp only [hDs] <;> omega | simp [isCell]) [hRs, takeMarks, resA, resAll, resOne, Value.cells, hnl]
    refine loop318b (low := low) (w := w) (Z := Z) (d := d) (c := i) (XD := XD) (nv := nv) (T0 := tset (tset T 7 (.int .i64 i)) 14 (.int .i64 i)) him hm (e01.rdS hZ) hZr (e01.get hXD) hnv ?_ ?_ ?_ ?_ (fun T' hc hk' => ?_) (fun T' hn h6 => ?_) (nearI w i m).length 0 (Nat.zero_add _) (fun x hx => by simp at hx) (fun t ht => ?_) ?_ ?_ ?_
    · simp [k0]
    · simp [k1]
    · simp [k3]
    · simp
    · have j14 : tget T' 14 = .int .i64 i := (hk' 14 (by simp)).trans (by simp)
      simp (disch := as_aux_lemma => first | omega | simp only [hDs] <;> omega | simp [isCell]) [hRs, takeMarks, resA, resAll, resOne, Value.cells, j14, e5]
      refine ih (i + 1) (by omega) e01 (fun c k hci hkm hn => ?_) (fun t ht => ?_) ?_
      · by_cases h : c = i
        · subst h; exact hc k hkm hn
        · exact hp c k (by omega) hkm hn
      · have q := hk' t (by rcases ht with rfl | rfl | rfl | rfl | rfl <;> simp)
        rw [← hk t ht]
        rcases ht with rfl | rfl | rfl | rfl | rfl <;> simp at q ⊢ <;> exact q
      · simp
    · simp (disch := as_aux_lemma => first | omega | simp only [hDs] <;> omega | simp [isCell]) [hRs, takeMarks, resA, resAll, resOne, Value.cells]
      exact hR _ _ e01 hn (by simp [h6])
    · rcases ht with rfl | rfl | rfl | rfl | rfl | rfl | rfl <;> simp [t14]
    all_goals simp
theorem w318 (hm : m < 1000) (hw : 1 ≤ w ∧ w ≤ 24) (hg : g ≤ A.n) (hZ : RdS A 2 m (ints Z) sx) (hZr : ∀ i, -1200000 ≤ gi Z i ∧ gi Z i ≤ 1200000) (hXG : A.get XG = some (boxG w h s sg)) (hsg : lenV sg = some (.int .i64 m)) (hXD : A.get XD = some (.cells [.int .i64 d] false))
    (hV : ∀ A' b, Ext' A A' → (b = true ↔ Kp w m Z d low) → V (.bool b) A') : WF AP KL g 318 [sx, .bool low, .pointer (some ⟨XG, 0, none⟩), .pointer (some ⟨XD, 0, none⟩)] A V := by
  rw [WF_body (show KL 318 = none from rfl) (show AP 318 = some F318 from rfl)]
  have hl := hZ.len
  simp (disch := as_aux_lemma => first | omega | simp only [hDs] <;> omega | simp [isCell]) [hRs, takeMarks, resA, resAll, resOne, Value.cells, F318, hl]
  refine loop318a (low := low) (w := w) (Z := Z) (d := d) (A0 := A) (T0 := [sx, .bool low, .pointer (some ⟨XG, 0, none⟩), .pointer (some ⟨XD, 0, none⟩), undef, undef, undef, undef, undef, undef, undef, undef, undef, .int .i64 m]) hm hw hg hZ hZr hXG hsg hXD (by simp) (by simp) (by simp) (by simp) (by simp) (fun T' A' e hkp => ?_) (fun T' A' e hkp h6 => ?_) m 0 (Nat.zero_add _) ⟨Nat.le_refl _, fun _ _ => rfl⟩ (fun c k hc => by omega) (fun t ht => ?_) ?_
  · simp (disch := as_aux_lemma => first | omega | simp only [hDs] <;> omega | simp [isCell]) [hRs, takeMarks, resA, resAll, resOne, Value.cells]
    exact hV _ true e ⟨fun _ => hkp, fun _ => rfl⟩
  · simp (disch := as_aux_lemma => first | omega | simp only [hDs] <;> omega | simp [isCell]) [hRs, takeMarks, resA, resAll, resOne, Value.cells, h6]
    exact hV _ false e ⟨fun h => by (cases h), fun h => absurd h hkp⟩
  · rcases ht with rfl | rfl | rfl | rfl | rfl <;> simp
  · simp
end
end Go.Ab.Grid
set_option maxRecDepth 100000
namespace Go.Ab.Grid
open Go Go.Ab
section
variable {w h s d : Int} {m : Nat} {zs Z T : List Int}
theorem nr_sym {c k : Nat} (hw : 1 ≤ w ∧ w ≤ 5) (hh : 1 ≤ h ∧ h ≤ 5) (hc : (c : Int) < w * h) (hk : (k : Int) < w * h) (hn : nrC w c k = true) : nrC w k c = true := by
  have h1 := (nr_nbrs hw hh hc hk).1 hn
  have h2 := (nbrs_symm hw.1 ⟨show (0 : Int) ≤ (c : Int) by omega, hc⟩ h1).2
  exact (nr_nbrs hw hh hk hc).2 h2
theorem nr_nb {c k : Nat} (hw : 1 ≤ w ∧ w ≤ 5) (hh : 1 ≤ h ∧ h ≤ 5) (hc : (c : Int) < w * h) (hk : (k : Int) < w * h) : nrC w c k = true ↔ k ∈ (nbrs w h c).map Int.toNat := by
  rw [nr_nbrs hw hh hc hk]
  constructor
  · intro h1; exact List.mem_map.2 ⟨(k : Int), h1, by simp⟩
  · intro h1
    obtain ⟨x, hx, hxk⟩ := List.mem_map.1 h1
    have := (nbrs_range hw.1 hx).1
    have : x = (k : Int) := by omega
    subst this; exact hx
theorem TigZ.has (hw : 1 ≤ w ∧ w ≤ 5) (hh : 1 ≤ h ∧ h ≤ 5) (hE : gridE w h s m zs = 0) (hd : 0 ≤ d ∧ d ≤ 2400000) (hT : ∀ j, j < m → gi zs (j * 2) ≤ gi T (j * 2) ∧ gi T (j * 2) ≤ gi zs (j * 2 + 1)) (hk : Kp w m T d true) (hZ : TigZ w h m zs d Z) : ∀ j, j < m → gi Z (j * 2) ≤ gi T (j * 2) ∧ gi T (j * 2) ≤ gi Z (j * 2 + 1) := by
  obtain ⟨_, ou, ol, a1, a2, a3⟩ := hZ
  have hmw := (gridE_parts hE).2.2.1
  have kv1 : ∀ c, kv true T c = gi T (c * 2) := fun c => by simp [kv]
  have up : ∀ {c : Nat} {v : Int}, (tPar true w h m zs d).Der c v → gi T (c * 2) ≤ v := by
    intro c v hd'
    induction hd' with
    | @base c hc => exact (hT c hc).2
    | @step c k v h1 h2 ih =>
      have hc := h1.lt (tPar_ok (up := true) hE hd)
      have hkm := (tPar_ok (up := true) hE hd).nb c hc k h2
      have hc' : c < m := hc
      have hk' : k < m := hkm
      have hn := (nr_nb hw hh (c := c) (k := k) (by omega) (by omega)).2 h2
      have := hk k c hk' hc' (nr_sym hw hh (by omega) (by omega) hn)
      rw [kv1, kv1] at this
      show gi T (k * 2) ≤ v + d
      omega
  have dn : ∀ {c : Nat} {v : Int}, (tPar false w h m zs d).Der c v → -(gi T (c * 2)) ≤ v := by
    intro c v hd'
    induction hd' with
    | @base c hc =>
      have := (hT c hc).1
      show -(gi T (c * 2)) ≤ -(gi zs (c * 2))
      omega
    | @step c k v h1 h2 ih =>
      have hc := h1.lt (tPar_ok (up := false) hE hd)
      have hkm := (tPar_ok (up := false) hE hd).nb c hc k h2
      have hc' : c < m := hc
      have hk' : k < m := hkm
      have hn := (nr_nb hw hh (c := c) (k := k) (by omega) (by omega)).2 h2
      have := hk c k hc' hk' hn
      rw [kv1, kv1] at this
      show -(gi T (k * 2)) ≤ v + d
      omega
  intro j hj
  have u := up (a1.out j hj)
  have l := dn (a2.out j hj)
  have := a3 j hj
  omega
theorem TigZ.keeps (hw : 1 ≤ w ∧ w ≤ 5) (hh : 1 ≤ h ∧ h ≤ 5) (hE : gridE w h s m zs = 0) (hZ : TigZ w h m zs d Z) (low : Bool) : Kp w m Z d low := by
  obtain ⟨_, ou, ol, a1, a2, a3⟩ := hZ
  have hmw := (gridE_parts hE).2.2.1
  intro c k hc hk hn
  have h1 := (nr_nb hw hh (c := c) (k := k) (by omega) (by omega)).1 hn
  have h2 := (nr_nb hw hh (c := k) (k := c) (by omega) (by omega)).1 (nr_sym hw hh (by omega) (by omega) hn)
  have zc := a3 c hc
  have zk := a3 k hk
  cases low
  · have q : gi ou c ≤ gi ou k + d := a1.cl k hk c h2
    simp only [kv]
    rw [if_neg (by decide), if_neg (by decide)]
    omega
  · have q : gi ol k ≤ gi ol c + d := a2.cl c hc k h1
    simp only [kv, if_pos]
    omega
theorem TigZ.inner (hZ : TigZ w h m zs d Z) : ∀ j, j < m → gi zs (j * 2) ≤ gi Z (j * 2) ∧ gi Z (j * 2 + 1) ≤ gi zs (j * 2 + 1) := by
  obtain ⟨_, ou, ol, a1, a2, a3⟩ := hZ
  intro j hj
  have u : gi ou j ≤ gi zs (j * 2 + 1) := a1.bs j hj
  have l : gi ol j ≤ -(gi zs (j * 2)) := a2.bs j hj
  have := a3 j hj
  omega
theorem TigZ.again (hZ : TigZ w h m zs d Z) : TigZ w h m Z d Z := by
  obtain ⟨l0, ou, ol, a1, a2, a3⟩ := hZ
  refine ⟨l0, ou, ol, ⟨a1.len, fun c hc => ?_, fun c hc => ?_, a1.cl⟩, ⟨a2.len, fun c hc => ?_, fun c hc => ?_, a2.cl⟩, a3⟩
  · have := (a3 c hc).2
    show gi ou c ≤ gi Z (c * 2 + 1)
    omega
  · have e : gi ou c = (tPar true w h m Z d).bs c := (a3 c hc).2.symm
    rw [e]
    exact .base hc
  · have := (a3 c hc).1
    show gi ol c ≤ -(gi Z (c * 2))
    omega
  · have e : gi ol c = (tPar false w h m Z d).bs c := by
      have := (a3 c hc).1
      show gi ol c = -(gi Z (c * 2))
      omega
    rw [e]
    exact .base hc
end
theorem Land.Ok.zr2 {L : Land} (h : L.Ok) : ∀ j, j < L.n → -32768 ≤ gi L.G.zs (j * 2) ∧ gi L.G.zs (j * 2) ≤ gi L.G.zs (j * 2 + 1) ∧ gi L.G.zs (j * 2 + 1) ≤ 33022 := fun j hj => by
  obtain ⟨a, b⟩ := Land.zs_get (L := L) hj
  have r := h.rng j
  show -32768 ≤ gi (L.zs L.n) (j * 2) ∧ gi (L.zs L.n) (j * 2) ≤ gi (L.zs L.n) (j * 2 + 1) ∧ gi (L.zs L.n) (j * 2 + 1) ≤ 33022
  rw [a, b]
  exact r
end Go.Ab.Grid
set_option maxRecDepth 100000
namespace Go.Ab.Grid
open Go Go.Ab
def pa287 : ACode := (.ops [
oP 3 (.box (.t 0)),
oP 6 (.move (.k (.bool false)))])
def pb287 : ACode := (.ops [
oD 16 3 4,
oA 17 310 [.t 16] false,
oP 7 (.alloc [.int .i64 0, .int .i64 0, .int .i64 0, .slice none 0 0]),
oT 7 17 4])
def pc287 : ACode := (.ops [
oM 18 1,
oP 19 (.toInt .i64 (.t 18)),
oC 20 .rem 19 3000,
oP 8 (.alloc [.int .i64 0]),
oT 8 20 1])
def pd287 : ACode := (.ops [
oD 21 7 4,
oM 22 2,
oA 23 312 [.t 21, .t 22] false,
oP 9 (.alloc [.int .i64 0, .int .i64 0, .int .i64 0, .slice none 0 0]),
oT 9 23 4])
def pe287 : ACode := (.ops [
oP 24 (.makeFunc 318 [] [.t 7, .t 8]),
oM 10 24])
def pf287 : ACode := (.ops [
oD 26 7 4,
oL 27 8,
oA 28 304 [.t 26, .t 27] false,
oM 25 28,
oX 29 25 0,
oX 30 25 1,
oP 11 (.alloc [.int .i64 0, .int .i64 0, .int .i64 0, .slice none 0 0]),
oT 11 29 4,
oM 12 30])
def pg287 : ACode := (.ops [
oM 31 10,
oF 32 9 3,
oL 33 32,
oP 34 (.call (.t 31) [.t 33, .k (.bool true)] false),
oM 13 34])
def ph287 : ACode := (.seq
 (.ops [
oM 35 12,
oC 36 .eql 35 14])
 (.cond (.t 36)
 (.seq
 (.ops [
oM 37 13,
oP 38 (.not (.t 37)),
oM 39 38,
oQ 40 39 true (.call (.k (.func (.func 289) ⟨[]⟩ ⟨[]⟩)) [] false),
oP 41 (.pick (.t 39) (.t 40) (.k (.bool false))),
oM 6 41])
 .ret)
 .skip))
def pi287 : ACode := (.seq
 (.ops [
oM 42 12,
oC 43 .neq 42 0,
oM 44 43,
oQ 45 44 false (.fieldAddr (.t 11) 3),
oQ 46 44 false (.load (.t 45) none),
oQ 47 44 false (.len (.t 46)),
oQ 48 44 false (.fieldAddr (.t 7) 3),
oQ 49 44 false (.load (.t 48) none),
oQ 50 44 false (.len (.t 49)),
oQ 51 44 false (.bin .neq (.t 47) (.t 50)),
oP 52 (.pick (.t 44) (.k (.bool true)) (.t 51)),
oM 53 52,
oN 54 53 false 10,
oQ 55 53 false (.fieldAddr (.t 11) 3),
oQ 56 53 false (.load (.t 55) none),
oQ 57 53 false (.call (.t 54) [.t 56, .k (.bool true)] false),
oQ 58 53 false (.not (.t 57)),
oP 59 (.pick (.t 53) (.k (.bool true)) (.t 58)),
oM 60 59,
oN 61 60 false 10,
oQ 62 60 false (.fieldAddr (.t 11) 3),
oQ 63 60 false (.load (.t 62) none),
oQ 64 60 false (.call (.t 61) [.t 63, .k (.bool false)] false),
oQ 65 60 false (.not (.t 64)),
oP 66 (.pick (.t 60) (.k (.bool true)) (.t 65))])
 (.cond (.t 66)
 (.seq
 (.ops [
oP 6 (.move (.k (.bool false)))])
 .ret)
 .skip))
def pj287 : ACode := (.seq
 (.ops [
oF 67 11 3,
oL 68 67,
oP 69 (.len (.t 68)),
oP 70 (.move (oK 0))])
 (.block 0
 (.loop
 (.seq
 (.ops [
oB 71 .lss 70 69])
 (.seq
 (.cond (.t 71)
 .skip
 (.exit 0))
 (.seq
 (.block 1
 (.seq
 (.ops [
oM 72 70,
oM 14 72])
 (.seq
 (.ops [
oF 73 11 3,
oL 74 73,
oM 75 14,
oI 76 74 75 2,
oD 77 76 2,
oF 78 7 3,
oL 79 78,
oM 80 14,
oI 81 79 80 2,
oD 82 81 2,
oA 83 314 [.t 77, .t 82] false,
oP 84 (.not (.t 83)),
oM 85 84,
oN 86 85 false 13,
oN 87 85 false 86,
oQ 88 87 true (.fieldAddr (.t 9) 3),
oQ 89 87 true (.load (.t 88) none),
oN 90 87 true 14,
oQ 91 87 true (.idxS (.t 89) (.t 90) 2),
oQ 92 87 true (.load (.t 91) (some 2)),
oQ 93 87 true (.fieldAddr (.t 11) 3),
oQ 94 87 true (.load (.t 93) none),
oN 95 87 true 14,
oQ 96 87 true (.idxS (.t 94) (.t 95) 2),
oQ 97 87 true (.load (.t 96) (some 2)),
oQ 98 87 true (.call (.k (.func (.func 314) ⟨[]⟩ ⟨[]⟩)) [.t 92, .t 97] false),
oQ 99 87 true (.not (.t 98)),
oQ 100 85 false (.pick (.t 87) (.t 99) (.k (.bool false))),
oP 101 (.pick (.t 85) (.k (.bool true)) (.t 100))])
 (.cond (.t 101)
 (.seq
 (.ops [
oP 6 (.move (.k (.bool false)))])
 .ret)
 .skip))))
 (.ops [
oC 102 .add 70 1,
oM 70 102])))))))
def pk287 : ACode := (.ops [
oD 104 11 4,
oL 105 8,
oA 106 304 [.t 104, .t 105] false,
oM 103 106,
oX 107 103 0,
oX 108 103 1,
oP 15 (.alloc [.int .i64 0, .int .i64 0, .int .i64 0, .slice none 0 0]),
oT 15 107 4,
oM 12 108])
def pl287 : ACode := (.seq
 (.ops [
oM 109 12,
oC 110 .eql 109 0,
oM 111 110,
oQ 112 111 true (.load (.t 15) (some 4)),
oQ 113 111 true (.load (.t 11) (some 4)),
oQ 114 111 true (.call (.k (.func (.func 301) ⟨[]⟩ ⟨[]⟩)) [.t 112, .t 113] false),
oP 115 (.pick (.t 111) (.t 114) (.k (.bool false))),
oM 116 115,
oQ 117 116 true (.call (.k (.func (.func 289) ⟨[]⟩ ⟨[]⟩)) [] false),
oP 118 (.pick (.t 116) (.t 117) (.k (.bool false))),
oM 6 118])
 .ret)
theorem AP287 : AP 287 = some (.fn 119 [.tmp 6] (.seq pa287 (.seq pb287 (.seq pc287 (.seq pd287 (.seq pe287 (.seq pf287 (.seq pg287 (.seq ph287 (.seq pi287 (.seq pj287 (.seq pk287 pl287)))))))))))) := rfl
def Wk (a b : List Int) (j : Nat) : Prop := gi b (j * 2) ≤ gi a (j * 2) ∧ gi a (j * 2 + 1) ≤ gi b (j * 2 + 1) ∧ gi a (j * 2) ≤ gi a (j * 2 + 1)
section
variable {g : Nat} {rd : Option Nat} {T : List Value} {D : List Nat} {A : Hp} {Q : Ex → St → Prop} {V : Value → Hp → Prop}
theorem loop287 {A0 : Hp} {w h s : Int} {m X7 X9 X11 : Nat} {zs Z t : List Int} {s7 s9 s11 : Value} {is : Bool} {T0 : List Value} (hm : m < 1000) (h7 : A0.get X7 = some (boxG w h s s7)) (h9 : A0.get X9 = some (boxG w h s s9)) (h11 : A0.get X11 = some (boxG w h s s11)) (r7 : RdS A0 2 m (ints zs) s7) (r9 : RdS A0 2 m (ints t) s9) (r11 : RdS A0 2 m (ints Z) s11)
    (hw1 : ∀ j, j < m → Wk Z zs j) (hw2 : is = true → ∀ j, j < m → Wk t Z j) (t7 : tget T0 7 = .pointer (some ⟨X7, 0, none⟩)) (t9 : tget T0 9 = .pointer (some ⟨X9, 0, none⟩)) (t11 : tget T0 11 = .pointer (some ⟨X11, 0, none⟩)) (t13 : tget T0 13 = .bool is) (t69 : tget T0 69 = .int .i64 m)
    (hQ : ∀ T' A', Ext' A0 A' → (∀ t, t = 7 ∨ t = 8 ∨ t = 9 ∨ t = 11 ∨ t = 13 ∨ t = 69 → tget T' t = tget T0 t) → Q (.exit 0) ⟨T', D, A'⟩) :
    ∀ (k i : Nat) {T : List Value} {A : Hp}, i + k = m → Ext' A0 A → (∀ t, t = 7 ∨ t = 8 ∨ t = 9 ∨ t = 11 ∨ t = 13 ∨ t = 69 → tget T t = tget T0 t) → tget T 70 = .int .i64 i → W AP KL g rd (.loop body287) ⟨T, D, A⟩ Q := by
  intro k
  have l7 : zs.length = m * 2 := by have := r7.1; simpa using this
  have l9 : t.length = m * 2 := by have := r9.1; simpa using this
  have l11 : Z.length = m * 2 := by have := r11.1; simpa using this
  induction k with
  | zero =>
    intro i T A hi e hk t70
    have : i = m := by omega
    subst this
    have k69 := (hk 69 (by simp)).trans t69
    rw [W_loop]
    simp (disch := as_aux_lemma => first | omega | simp only [hDs] <;> omega | simp [isCell]) [hRs, takeMarks, resA, resAll, resOne, Value.cells, body287, k69, t70]
    refine hQ _ _ e fun t ht => ?_
    rw [← hk t ht]
    rcases ht with rfl | rfl | rfl | rfl | rfl | rfl <;> simp
  | succ k ih =>
    intro i T A hi e hk t70
    have him : i < m := by omega
    have e5 : wr .i64 ((i : Int) + 1) = ((i + 1 : Nat) : Int) := by rw [wrId (by omega) (by omega)]; simp
    obtain ⟨b7, c7, q7, rfl, g7⟩ := r7.at him
    obtain ⟨b9, c9, q9, rfl, g9⟩ := r9.at him
    obtain ⟨b11, c11, q11, rfl, g11⟩ := r11.at him
    have k7 := (hk 7 (by simp)).trans t7
    have k9 := (hk 9 (by simp)).trans t9
    have k11 := (hk 11 (by simp)).trans t11
    have k13 := (hk 13 (by simp)).trans t13
    have k69 := (hk 69 (by simp)).trans t69
    have keep : ∀ {T' : List Value}, (tget T' 7 = tget T 7 ∧ tget T' 8 = tget T 8 ∧ tget T' 9 = tget T 9 ∧ tget T' 11 = tget T 11 ∧ tget T' 13 = tget T 13 ∧ tget T' 69 = tget T 69) → ∀ t, t = 7 ∨ t = 8 ∨ t = 9 ∨ t = 11 ∨ t = 13 ∨ t = 69 → tget T' t = tget T0 t := by
      intro T' h t ht
      rw [← hk t ht]
      rcases ht with rfl | rfl | rfl | rfl | rfl | rfl <;> simp [h]
    rw [W_loop]
    simp (disch := as_aux_lemma => first | omega | simp only [hDs] <;> omega | simp [isCell]) [hRs, takeMarks, resA, resAll, resOne, Value.cells, body287, k7, k11, k69, t70, show ((i : Int) < m) by omega, him, idxSA_ok, e.get h7, e.get h11, boxG, e.get g7, e.get g11, ints_two, l7, l11]
    refine w314 (hw1 i him) fun A1 e1 => ?_
    have f1 := e.trans e1
    cases is with
    | true =>
      simp (disch := as_aux_lemma => first | omega | simp only [hDs] <;> omega | simp [isCell]) [hRs, takeMarks, resA, resAll, resOne, Value.cells, k9, k11, k13, t70, him, idxSA_ok, f1.get h9, f1.get h11, boxG, f1.get g9, f1.get g11, ints_two, l9, l11]
      refine w314 (hw2 rfl i him) fun A2 e2 => ?_
      have f2 := f1.trans e2
      simp (disch := as_aux_lemma => first | omega | simp only [hDs] <;> omega | simp [isCell]) [hRs, takeMarks, resA, resAll, resOne, Value.cells, t70, e5]
      refine ih (i + 1) (by omega) f2 (keep (by simp)) ?_
      simp
    | false =>
      simp (disch := as_aux_lemma => first | omega | simp only [hDs] <;> omega | simp [isCell]) [hRs, takeMarks, resA, resAll, resOne, Value.cells, k13, t70, e5]
      refine ih (i + 1) (by omega) f1 (keep (by simp)) ?_
      simp
theorem start287 {A0 : Hp} {w h s : Int} {m X7 X9 X11 : Nat} {zs Z t : List Int} {s7 s9 s11 : Value} {is : Bool} {T : List Value} (hm : m < 1000) (h7 : A0.get X7 = some (boxG w h s s7)) (h9 : A0.get X9 = some (boxG w h s s9)) (h11 : A0.get X11 = some (boxG w h s s11)) (r7 : RdS A0 2 m (ints zs) s7) (r9 : RdS A0 2 m (ints t) s9) (r11 : RdS A0 2 m (ints Z) s11)
    (hw1 : ∀ j, j < m → Wk Z zs j) (hw2 : is = true → ∀ j, j < m → Wk t Z j) (t7 : tget T 7 = .pointer (some ⟨X7, 0, none⟩)) (t9 : tget T 9 = .pointer (some ⟨X9, 0, none⟩)) (t11 : tget T 11 = .pointer (some ⟨X11, 0, none⟩)) (t13 : tget T 13 = .bool is) (t69 : tget T 69 = .int .i64 m)
    (t70 : tget T 70 = .int .i64 0) (hQ : ∀ T' A', Ext' A0 A' → (∀ t, t = 7 ∨ t = 8 ∨ t = 9 ∨ t = 11 ∨ t = 13 ∨ t = 69 → tget T' t = tget T t) → Q (.exit 0) ⟨T', D, A'⟩) : W AP KL g rd (.loop body287) ⟨T, D, A0⟩ Q :=
  loop287 hm h7 h9 h11 r7 r9 r11 hw1 hw2 t7 t9 t11 t13 t69 hQ m 0 (Nat.zero_add _) ⟨Nat.le_refl _, fun _ _ => rfl⟩ (fun _ _ => rfl) t70
theorem law287 {L : Land} {nw : Nat} {wh : List Int} {sl sm sw : Value} {sp : Int} (hL : L.Ok) (hat : L.At A sl sm) (hsw : RdS A 1 nw (kints .u8 wh) sw) (hwr : ∀ i, 0 ≤ gi wh i ∧ gi wh i ≤ 255) (hsp : 0 ≤ sp ∧ sp ≤ 65535) (hg : g ≤ A.n) (hV : ∀ A', V (.bool true) A') :
    WF AP KL g 287 [L.V sl sm, .int .u16 sp, sw] A V := by
  rw [WF_body (show KL 287 = none from rfl) AP287]
  have hn := hL.n
  have hw := hL.w
  have hh := hL.h
  have hzr := hL.zr2
  have hE : gridE L.w L.h 100 L.n L.G.zs = 0 := hL.E
  obtain ⟨B, hB⟩ : ∃ B, B = A.push (.cells [.int .u8 L.wide, .int .u8 L.high, sl, sm] false) := ⟨_, rfl⟩
  have eB : Ext' A B := by rw [hB]; exact Ext'.push _ _
  have b3 : B.get A.n = some (.cells [.int .u8 L.wide, .int .u8 L.high, sl, sm] false) := by rw [hB]; exact get_push_new
  have nB := eB.1
  have e4 : wr .i64 sp = sp := wrId (by omega) (by omega)
  obtain ⟨d, hd⟩ : ∃ d, d = sp.tmod 3000 := ⟨_, rfl⟩
  have hdr : 0 ≤ d ∧ d ≤ 2400000 := by
    have a := Int.tmod_nonneg 3000 hsp.1
    have b := Int.tmod_lt_of_pos sp (show (0 : Int) < 3000 by decide)
    omega
  simp (disch := as_aux_lemma => first | omega | simp only [hDs] <;> omega | simp [isCell]) [hRs, takeMarks, resA, resAll, resOne, Value.cells, pa287, pb287, Land.V, ← hB, b3]
  refine w310 (L := L) hL ⟨eB.rdS hat.1, eB.rdS hat.2⟩ (by omega) fun A1 v1 e1 hv1 => ?_
  obtain ⟨sg, rfl, rg⟩ := hv1
  obtain ⟨pg, cg, rfl⟩ := rg.isSlice'
  have n1 := e1.1
  simp (disch := as_aux_lemma => first | omega | simp only [hDs] <;> omega | simp [isCell]) [hRs, takeMarks, resA, resAll, resOne, Value.cells, gridV, storeB_cells, setRange_all, set_push_eq, slitA, zeros, fillA]
  obtain ⟨B1, hB1⟩ : ∃ B1, B1 = A1.push (.cells [.int .i64 L.G.w, .int .i64 L.G.h, .int .i64 L.G.s, .slice pg L.G.m cg] false) := ⟨_, rfl⟩
  rw [← hB1]
  have eB1 : Ext' A1 B1 := by rw [hB1]; exact Ext'.push _ _
  have nB1 : B1.n = A1.n + 1 := by rw [hB1]; rfl
  have c7 : B1.get A1.n = some (boxG L.w L.h 100 (.slice pg L.n cg)) := by rw [hB1]; exact get_push_new
  obtain ⟨B2, hB2⟩ : ∃ B2, B2 = B1.push (.cells [.int .i64 d] false) := ⟨_, rfl⟩
  have eB2 : Ext' B1 B2 := by rw [hB2]; exact Ext'.push _ _
  have nB2 : B2.n = B1.n + 1 := by rw [hB2]; rfl
  have c8 : B2.get B1.n = some (.cells [.int .i64 d] false) := by rw [hB2]; exact get_push_new
  have r7 : RdS B2 2 L.n (ints L.G.zs) (.slice pg L.n cg) := (eB1.trans eB2).rdS rg
  have f2 := ((eB.trans e1).trans eB1).trans eB2
  simp (disch := as_aux_lemma => first | omega | simp only [hDs] <;> omega | simp [isCell]) [hRs, takeMarks, resA, resAll, resOne, Value.cells, pc287, toIntA, e4, binA_rem (show (3000 : Int) ≠ 0 by decide), ← hd, fillA, setRange, storeB_cells, set_push_eq, setRange_all, ← hB2]
  simp (disch := as_aux_lemma => first | omega | simp only [hDs] <;> omega | simp [isCell]) [hRs, takeMarks, resA, resAll, resOne, Value.cells, pd287, boxG, eB2.get c7]
  refine w312 (x := L.G) (nw := nw) (wh := wh) ⟨_, rfl, r7⟩ (by show L.n < 1000; omega) (fun j hj => by have := hzr j hj; omega) (f2.rdS hsw) hwr (by omega) fun A3 v3 e3 hv3 => ?_
  obtain ⟨st, rfl, rt⟩ := hv3
  obtain ⟨pt, ct, rfl⟩ := rt.isSlice'
  have n3 := e3.1
  obtain ⟨t, ht⟩ : ∃ t, t = terZ L.G.zs nw wh L.n := ⟨_, rfl⟩
  have rt' : RdS A3 2 L.n (ints t) (.slice pt L.n ct) := by rw [ht]; exact rt
  have htz : ∀ j, j < L.n → gi L.G.zs (j * 2) ≤ gi t (j * 2) ∧ gi t (j * 2) ≤ gi L.G.zs (j * 2 + 1) ∧ gi t (j * 2 + 1) = gi t (j * 2) := fun j hj => by
    have a := terH_in (zs := L.G.zs) (wh := wh) (nw := nw) (i := j) (fun i => (hwr i).1) (hzr j hj).2.1
    rw [ht, (terZ_get hj).1, (terZ_get hj).2]
    omega
  simp (disch := as_aux_lemma => first | omega | simp only [hDs] <;> omega | simp [isCell]) [hRs, takeMarks, resA, resAll, resOne, Value.cells, gridV, storeB_cells, setRange_all, set_push_eq, slitA, zeros, fillA]
  obtain ⟨B3, hB3⟩ : ∃ B3, B3 = A3.push (.cells [.int .i64 L.G.w, .int .i64 L.G.h, .int .i64 L.G.s, .slice pt L.G.m ct] false) := ⟨_, rfl⟩
  rw [← hB3]
  have eB3 : Ext' A3 B3 := by rw [hB3]; exact Ext'.push _ _
  have nB3 : B3.n = A3.n + 1 := by rw [hB3]; rfl
  have c9 : B3.get A3.n = some (boxG L.w L.h 100 (.slice pt L.n ct)) := by rw [hB3]; exact get_push_new
  have e23 := e3.trans eB3
  have d7 := (eB2.trans e23).get c7
  have d8 := e23.get c8
  have y7 := e23.rdS r7
  have y9 := eB3.rdS rt'
  simp (disch := as_aux_lemma => first | omega | simp only [hDs] <;> omega | simp [isCell]) [hRs, takeMarks, resA, resAll, resOne, Value.cells, pe287, pf287, d7, d8, boxG]
  refine w304 (s := 100) (zs := L.G.zs) (by omega) y7 (by omega) fun A4 vg e e4' hv4 => ?_
  have n4 := e4'.1
  rcases hv4 with ⟨h1, _⟩ | ⟨_, h1, _⟩ | ⟨_, _, Z, hZ, hcase⟩
  · exact absurd hE h1
  · exact absurd hdr h1
  have hZl := hZ.1
  have hin := hZ.inner
  have hgi0 : ∀ {l : List Int} {i : Nat}, l.length ≤ i → gi l i = 0 := fun {l i} hi => by simp [gi, List.getD, hi]
  have rngL : ∀ {l : List Int}, l.length = L.n * 2 → (∀ j, j < L.n → (-1200000 ≤ gi l (j * 2) ∧ gi l (j * 2) ≤ 1200000) ∧ -1200000 ≤ gi l (j * 2 + 1) ∧ gi l (j * 2 + 1) ≤ 1200000) → ∀ i, -1200000 ≤ gi l i ∧ gi l i ≤ 1200000 := fun {l} hl hj i => by
    by_cases hi : i < L.n * 2
    · obtain ⟨j, hj'⟩ : ∃ j, i = j * 2 ∨ i = j * 2 + 1 := ⟨i / 2, by omega⟩
      rcases hj' with rfl | rfl
      · exact (hj j (by omega)).1
      · exact (hj j (by omega)).2
    · rw [hgi0 (by omega)]; omega
  have htl : t.length = L.n * 2 := by rw [ht]; exact terZ_len
  have htr := rngL htl fun j hj => by have := htz j hj; have := hzr j hj; omega
  have hl7 := y7.len
  rcases hcase with ⟨hval, rfl, hgv⟩ | ⟨⟨jb, hjb, hlt⟩, rfl, hgv⟩
  · obtain ⟨sx, rfl, rx⟩ := hgv
    obtain ⟨px, cx, rfl⟩ := rx.isSlice'
    have hZr := rngL hZl fun j hj => by have := hin j hj; have := hzr j hj; have := hval j hj; omega
    simp (disch := as_aux_lemma => first | omega | simp only [hDs] <;> omega | simp [isCell]) [hRs, takeMarks, resA, resAll, resOne, Value.cells, gridV, storeB_cells, setRange_all, set_push_eq, fillA]
    obtain ⟨B4, hB4⟩ : ∃ B4, B4 = A4.push (.cells [.int .i64 L.w, .int .i64 L.h, .int .i64 100, .slice px L.n cx] false) := ⟨_, rfl⟩
    rw [← hB4]
    have eB4 : Ext' A4 B4 := by rw [hB4]; exact Ext'.push _ _
    have nB4 : B4.n = A4.n + 1 := by rw [hB4]; rfl
    have c11 : B4.get A4.n = some (boxG L.w L.h 100 (.slice px L.n cx)) := by rw [hB4]; exact get_push_new
    have e44 := e4'.trans eB4
    have x11 : RdS B4 2 L.n (ints Z) (.slice px L.n cx) := eB4.rdS rx
    simp (disch := as_aux_lemma => first | omega | simp only [hDs] <;> omega | simp [isCell]) [hRs, takeMarks, resA, resAll, resOne, Value.cells, pg287, e44.get c9, boxG]
    refine w318 (w := L.w) (h := L.h) (s := 100) (d := d) (m := L.n) (Z := t) (low := true) (by omega) ⟨hw.1, by omega⟩ (by omega) (e44.rdS y9) htr (e44.get d7) hl7 (e44.get d8) fun A5 b e5 hb => ?_
    have n5 := e5.1
    have g5 := e44.trans e5
    have hkb : b = true → ∀ j, j < L.n → gi Z (j * 2) ≤ gi t (j * 2) ∧ gi t (j * 2) ≤ gi Z (j * 2 + 1) := fun h => hZ.has hw hh hE hdr (fun j hj => ⟨(htz j hj).1, (htz j hj).2.1⟩) (hb.1 h)
    have z11 := e5.get c11
    have hlx := x11.len
    simp (disch := as_aux_lemma => first | omega | simp only [hDs] <;> omega | simp [isCell]) [hRs, takeMarks, resA, resAll, resOne, Value.cells, ph287, pi287, z11, g5.get d7, boxG, hl7, hlx]
    refine w318 (w := L.w) (h := L.h) (s := 100) (d := d) (m := L.n) (Z := Z) (low := true) (by omega) ⟨hw.1, by omega⟩ (by omega) (e5.rdS x11) hZr (g5.get d7) hl7 (g5.get d8) fun A6 b1 e6 hb1 => ?_
    have n6 := e6.1
    have t1 := hb1.2 (hZ.keeps hw hh hE true)
    subst t1
    have e56 := e5.trans e6
    have g6 := g5.trans e6
    simp (disch := as_aux_lemma => first | omega | simp only [hDs] <;> omega | simp [isCell]) [hRs, takeMarks, resA, resAll, resOne, Value.cells, e56.get c11, boxG]
    refine w318 (w := L.w) (h := L.h) (s := 100) (d := d) (m := L.n) (Z := Z) (low := false) (by omega) ⟨hw.1, by omega⟩ (by omega) (e56.rdS x11) hZr (g6.get d7) hl7 (g6.get d8) fun A7 b2 e7 hb2 => ?_
    have n7 := e7.1
    have t2 := hb2.2 (hZ.keeps hw hh hE false)
    subst t2
    have e57 := e56.trans e7
    have g7 := g6.trans e7
    simp (disch := as_aux_lemma => first | omega | simp only [hDs] <;> omega | simp [isCell]) [hRs, takeMarks, resA, resAll, resOne, Value.cells, pj287, e57.get c11, boxG, hlx]
    refine start287 (w := L.w) (h := L.h) (s := 100) (X7 := A1.n) (X9 := A3.n) (X11 := A4.n) (zs := L.G.zs) (Z := Z) (t := t) (is := b) (by omega) (g7.get d7) (g7.get c9) (e57.get c11) (g7.rdS y7) (g7.rdS y9) (e57.rdS x11) (fun j hj => ⟨(hin j hj).1, (hin j hj).2, hval j hj⟩) (fun h j hj => ?_) ?_ ?_ ?_ ?_ ?_ ?_ (fun T' A8 e8 hk => ?_)
    · obtain ⟨q1, q2⟩ := hkb h j hj
      have := (htz j hj).2.2
      exact ⟨q1, by omega, by omega⟩
    · simp
    · simp
    · simp
    · simp
    · simp
    · simp
    · have n8 := e8.1
      have j8 : tget T' 8 = .pointer (some ⟨B1.n, 0, none⟩) := (hk 8 (by simp)).trans (by simp)
      have j11 : tget T' 11 = .pointer (some ⟨A4.n, 0, none⟩) := (hk 11 (by simp)).trans (by simp)
      have e58 := e57.trans e8
      have g8 := g7.trans e8
      have u11 := e58.get c11
      simp (disch := as_aux_lemma => first | omega | simp only [hDs] <;> omega | simp [isCell]) [hRs, takeMarks, resA, resAll, resOne, Value.cells, pk287, j8, j11, u11, g8.get d8, boxG]
      have hEZ : gridE L.w L.h 100 L.n Z = 0 := Land.E_of hL fun j hj => by have := hin j hj; have := hzr j hj; have := hval j hj; omega
      refine w304 (s := 100) (zs := Z) (by omega) (e58.rdS x11) (by omega) fun A9 vg2 e' e9 hv9 => ?_
      have n9 := e9.1
      rcases hv9 with ⟨h1, _⟩ | ⟨_, h1, _⟩ | ⟨_, _, Z2, hZ2, hcase2⟩
      · exact absurd hEZ h1
      · exact absurd hdr h1
      have hZZ := TigZ.uniq hEZ hdr hZ2 hZ.again
      subst hZZ
      rcases hcase2 with ⟨_, rfl, hgv2⟩ | ⟨⟨jb, hjb, hlt⟩, _⟩
      rotate_left
      · have := hval jb hjb; omega
      obtain ⟨sx2, rfl, rx2⟩ := hgv2
      obtain ⟨px2, cx2, rfl⟩ := rx2.isSlice'
      simp (disch := as_aux_lemma => first | omega | simp only [hDs] <;> omega | simp [isCell]) [hRs, takeMarks, resA, resAll, resOne, Value.cells, gridV, storeB_cells, setRange_all, set_push_eq, fillA]
      obtain ⟨B9, hB9⟩ : ∃ B9, B9 = A9.push (.cells [.int .i64 L.w, .int .i64 L.h, .int .i64 100, .slice px2 L.n cx2] false) := ⟨_, rfl⟩
      rw [← hB9]
      have eB9 : Ext' A9 B9 := by rw [hB9]; exact Ext'.push _ _
      have c15 : B9.get A9.n = some (.cells [.int .i64 L.w, .int .i64 L.h, .int .i64 100, .slice px2 L.n cx2] false) := by rw [hB9]; exact get_push_new
      have u11' := (e9.trans eB9).get u11
      simp (disch := as_aux_lemma => first | omega | simp only [hDs] <;> omega | simp [isCell]) [hRs, takeMarks, resA, resAll, resOne, Value.cells, pl287, c15, j11, u11', boxG]
      refine w301 (x := ⟨L.w, L.h, 100, L.n, Z2⟩) (y := ⟨L.w, L.h, 100, L.n, Z2⟩) ⟨_, rfl, eB9.rdS rx2⟩ ⟨_, rfl, (e58.trans (e9.trans eB9)).rdS x11⟩ (by show L.n < _; omega) rfl fun A10 e10 => ?_
      simp (disch := as_aux_lemma => first | omega | simp only [hDs] <;> omega | simp [isCell]) [hRs, takeMarks, resA, resAll, resOne, Value.cells]
      exact hV _
  · obtain ⟨sx, rfl, rx⟩ := hgv
    have hsx : sx = .slice none 0 0 ∨ ∃ p c, sx = .slice p 0 c := by
      obtain ⟨p, c, h⟩ := rx.isSlice'
      exact .inr ⟨p, c, h⟩
    obtain ⟨px, cx, rfl⟩ := rx.isSlice'
    simp (disch := as_aux_lemma => first | omega | simp only [hDs] <;> omega | simp [isCell]) [hRs, takeMarks, resA, resAll, resOne, Value.cells, gridV, storeB_cells, setRange_all, set_push_eq, fillA]
    obtain ⟨B4, hB4⟩ : ∃ B4, B4 = A4.push (.cells [.int .i64 G0.w, .int .i64 G0.h, .int .i64 G0.s, .slice px G0.m cx] false) := ⟨_, rfl⟩
    rw [← hB4]
    have eB4 : Ext' A4 B4 := by rw [hB4]; exact Ext'.push _ _
    have nB4 : B4.n = A4.n + 1 := by rw [hB4]; rfl
    have e44 := e4'.trans eB4
    simp (disch := as_aux_lemma => first | omega | simp only [hDs] <;> omega | simp [isCell]) [hRs, takeMarks, resA, resAll, resOne, Value.cells, pg287, e44.get c9, boxG]
    refine w318 (w := L.w) (h := L.h) (s := 100) (d := d) (m := L.n) (Z := t) (low := true) (by omega) ⟨hw.1, by omega⟩ (by omega) (e44.rdS y9) htr (e44.get d7) hl7 (e44.get d8) fun A5 b e5 hb => ?_
    cases b with
    | true =>
      have := hZ.has hw hh hE hdr (fun j hj => ⟨(htz j hj).1, (htz j hj).2.1⟩) (hb.1 rfl) jb hjb
      omega
    | false =>
      simp (disch := as_aux_lemma => first | omega | simp only [hDs] <;> omega | simp [isCell]) [hRs, takeMarks, resA, resAll, resOne, Value.cells, ph287]
      exact hV _
end
end Go.Ab.Grid
set_option maxRecDepth 100000
namespace Go.Ab.Grid
open Go Go.Ab
def tLand : Ty := .pair (.int .u8) (.pair (.int .u8) (.pair (.slice (.int .i16)) (.pair (.slice (.int .u8)) .unit)))
theorem maxLen_lt : maxLen ≤ 9223372036854775807 := by decide
theorem sh_rowk {rows : List (List Value)} {k : IntKind} {cs : List Value} (h : Sh rows (.slice (.int k)) cs) :
    ∃ (n : Nat) (zs : List Int) (sl : Value), cs = [sl] ∧ RdS (roHp rows) 1 n (kints k zs) sl ∧ (zs.length = n ∧ n ≤ 9223372036854775807) ∧ ∀ z ∈ zs, k.min ≤ z ∧ z ≤ k.max := by
  obtain ⟨n, zs, sl, h1, r, m, b⟩ := sh_slice_k (k := k) (e := .int k) (by simp [allK]) h
  refine ⟨n, zs, sl, h1, r, ⟨?_, Nat.le_trans m maxLen_lt⟩, b⟩
  have := r.1
  rw [kints_length] at this
  simpa [Ty.size] using this
theorem sh_land {rows : List (List Value)} {cs : List Value} (h : Sh rows tLand cs) : ∃ (L : Land) (sl sm : Value), mkV tLand cs = L.V sl sm ∧ L.Ok ∧ L.At (roHp rows) sl sm := by
  obtain ⟨_, _, rfl, h1, ⟨_, _, rfl, h2, ⟨_, _, rfl, h3, ⟨_, _, rfl, h4, rfl⟩⟩⟩⟩ := h
  obtain ⟨a1, rfl, b1⟩ := sh_int h1
  obtain ⟨a2, rfl, b2⟩ := sh_int h2
  obtain ⟨n3, z3, s3, rfl, r3, l3, b3⟩ := sh_rowk h3
  obtain ⟨n4, z4, s4, rfl, r4, l4, b4⟩ := sh_rowk h4
  exact ⟨⟨a1, a2, n3, z3, n4, z4⟩, s3, s4, rfl, ⟨b1, b2, fun i => gi_rng b3 (by decide) (by decide) i, fun i => gi_rng b4 (by decide) (by decide) i, l3, l4⟩, r3, r4⟩
end Go.Ab.Grid
