/- A grid among a law's arguments. -/
import Derived.Test.YtmppgcknmmmioaaGreatDoorZ15
import Derived.Test.YtmppgcknmmmioaaGreatDoorZ13
import Derived.Test.YtmppgcknmmmioaaGreatDoorZ12
import Derived.Test.YtmppgcknmmmioaaGreatDoorTie
import Derived.Lib.LaidU8
import Derived.Shelf.Vars
import Derived.Lay
import Derived.Handed
import Derived.MakeChecks
set_option linter.unusedSimpArgs false
set_option linter.unusedVariables false
set_option linter.unusedSectionVars false
set_option maxRecDepth 100000
namespace Go.Ab.Grid
open Go Go.Ab
def TigZ (w h : Int) (m : Nat) (zs : List Int) (st : Int) (Z : List Int) : Prop :=
  Z.length = m * 2 ∧ ∃ ou ol, TFin (tPar true w h m zs st) ou ∧ TFin (tPar false w h m zs st) ol ∧ ∀ j, j < m → gi Z (j * 2) = -(gi ol j) ∧ gi Z (j * 2 + 1) = gi ou j
theorem TigZ.uniq {w h s st : Int} {m : Nat} {zs Z Z' : List Int} (hE : gridE w h s m zs = 0) (hst : 0 ≤ st ∧ st ≤ 2400000) (h1 : TigZ w h m zs st Z) (h2 : TigZ w h m zs st Z') : Z = Z' := by
  obtain ⟨l1, ou, ol, a1, a2, a3⟩ := h1
  obtain ⟨l2, ou', ol', b1, b2, b3⟩ := h2
  have e1 := TFin.uniq (tPar_ok (up := true) hE hst) a1 b1
  have e2 := TFin.uniq (tPar_ok (up := false) hE hst) a2 b2
  subst e1
  subst e2
  refine list_gi (by rw [l1, l2]) fun i hi => ?_
  rw [l1] at hi
  obtain ⟨j, hj⟩ : ∃ j, i = j * 2 ∨ i = j * 2 + 1 := ⟨i / 2, by omega⟩
  rcases hj with rfl | rfl
  · rw [(a3 j (by omega)).1, (b3 j (by omega)).1]
  · rw [(a3 j (by omega)).2, (b3 j (by omega)).2]
def TigV (A : Hp) (w h s : Int) (m : Nat) (zs : List Int) (st : Int) (vg : Value) (e : Int) : Prop :=
  (gridE w h s m zs ≠ 0 ∧ e = gridE w h s m zs ∧ GAt A G0 vg) ∨ (gridE w h s m zs = 0 ∧ ¬ (0 ≤ st ∧ st ≤ 2400000) ∧ e = 3 ∧ GAt A G0 vg) ∨
    (gridE w h s m zs = 0 ∧ (0 ≤ st ∧ st ≤ 2400000) ∧ ∃ Z, TigZ w h m zs st Z ∧ ((∀ j, j < m → gi Z (j * 2) ≤ gi Z (j * 2 + 1)) ∧ e = 0 ∧ GAt A ⟨w, h, s, m, Z⟩ vg ∨ (∃ j, j < m ∧ gi Z (j * 2 + 1) < gi Z (j * 2)) ∧ e = 14 ∧ GAt A G0 vg))
section
variable {g : Nat} {rd : Option Nat} {T : List Value} {D : List Nat} {A : Hp} {Q : Ex → St → Prop} {V : Value → Hp → Prop}
theorem says334 {A0 : Hp} {n : Nat} {zs : List Int} : Says g A0 (.func (.func 334) ⟨[]⟩ ⟨[]⟩) n (fun i => .agg ⟨[.int .i64 (gi zs (i * 2)), .int .i64 (gi zs (i * 2 + 1))]⟩) (fun i => decide (gi zs (i * 2 + 1) < gi zs (i * 2))) := by
  intro i hi A V he hV
  simp (disch := as_aux_lemma => first | omega | simp only [hDs] <;> omega | simp [isCell]) [hRs, takeMarks, resA, resAll, resOne, Value.cells]
  rw [WF_body (show KL 334 = none from rfl) (show AP 334 = some F334 from rfl)]
  simp (disch := as_aux_lemma => first | omega | simp only [hDs] <;> omega | simp [isCell]) [hRs, takeMarks, resA, resAll, resOne, Value.cells, F334]
  exact hV _ (Ext'.push A _)
theorem w304 {w h s st : Int} {m : Nat} {zs : List Int} {sl : Value} (hm : m < 1000000) (hsl : RdS A 2 m (ints zs) sl) (hg : g ≤ A.n)
    (hV : ∀ A' vg e, Ext' A A' → TigV A' w h s m zs st vg e → V (.tuple ⟨[vg, .int .i64 e]⟩) A') : WF AP KL g 304 [gridV w h s sl, .int .i64 st] A V := by
  rw [WF_body (show KL 304 = none from rfl) (show AP 304 = some F304 from rfl)]
  obtain ⟨pl, cl, rfl⟩ := hsl.isSlice'
  obtain ⟨B, hB⟩ : ∃ B, B = ((A.push (boxG w h s (.slice pl m cl))).push (.cells [.int .i64 st] false)).push zeroG := ⟨_, rfl⟩
  have eB : Ext' A B := by rw [hB]; exact ((Ext'.push _ _).trans (Ext'.push _ _)).trans (Ext'.push _ _)
  have nB : B.n = A.n + 3 := by rw [hB]; rfl
  have b2 : B.get A.n = some (boxG w h s (.slice pl m cl)) := by rw [hB, get_push_old (by simp; omega), get_push_old (by simp), get_push_eq (by omega)]
  have b3 : B.get (A.n + 1) = some (.cells [.int .i64 st] false) := by rw [hB, get_push_old (by simp), get_push_eq (by simp)]
  have b4 : B.get (A.n + 1 + 1) = some zeroG := by rw [hB, get_push_eq (by simp)]
  unfold boxG zeroG at hB
  simp (disch := as_aux_lemma => first | omega | simp only [hDs] <;> omega | simp [isCell]) [hRs, takeMarks, resA, resAll, resOne, Value.cells, F304, gridV, ← hB, b2, boxG]
  refine w37 (w := w) (h := h) (s := s) (zs := zs) (eB.rdS hsl) hm fun A1 e1 => ?_
  have n1 := e1.1
  have c4 := e1.get b4
  have f1 := eB.trans e1
  have zz : ∀ {A' : Hp}, Ext' A A' → A'.get (A.n + 1 + 1) = some zeroG → ∀ e, (∀ A'' vg, GAt A'' G0 vg → TigV A'' w h s m zs st vg e) → V (.tuple ⟨[gridV 0 0 0 (.slice none 0 0), .int .i64 e]⟩) (A'.set (A.n + 1 + 1) (some zeroG)) := fun {A'} e' c' e hT => by
    refine hV _ _ _ (e'.trans (set_same c')) (hT _ _ GAt.zero)
  by_cases hE : gridE w h s m zs = 0
  · obtain ⟨hw, hh, hmw, hv⟩ := gridE_parts hE
    have c24 : w * h ≤ 24 * 24 := Int.mul_le_mul hw.2 hh.2 (by omega) (by omega)
    have c1 : 1 ≤ w * h := by
      have := Int.mul_le_mul hw.1 hh.1 (by omega) (by omega)
      omega
    simp (disch := as_aux_lemma => first | omega | simp only [hDs] <;> omega | simp [isCell]) [hRs, takeMarks, resA, resAll, resOne, Value.cells, hE, e1.get b3]
    refine w55 ?_
    by_cases hst : 0 ≤ st ∧ st ≤ 2400000
    · have d2 := e1.get b2
      simp (disch := as_aux_lemma => first | omega | simp only [hDs] <;> omega | simp [isCell]) [hRs, takeMarks, resA, resAll, resOne, Value.cells, hst.1, hst.2, d2, boxG]
      refine w326 (w := w) (h := h) (s := s) (zs := zs) (f1.rdS hsl) (by omega) (by omega) (by have := f1.1; omega) fun A2 Y c e2 hAY hY => ?_
      have n2 := e2.1
      have hYn := Hp.lt_of_get hY
      have f2 := f1.trans e2
      simp (disch := as_aux_lemma => first | omega | simp only [hDs] <;> omega | simp [isCell]) [hRs, takeMarks, resA, resAll, resOne, Value.cells, gridV, fillA, storeB_cells, setRange_all, set_push_eq]
      obtain ⟨C, hC⟩ : ∃ C, C = A2.push (boxG w h s (.slice (some ⟨Y, 0, some 2⟩) m c)) := ⟨_, rfl⟩
      have eC : Ext' A2 C := by rw [hC]; exact Ext'.push _ _
      have nC : C.n = A2.n + 1 := by rw [hC]; rfl
      have x7 : C.get A2.n = some (boxG w h s (.slice (some ⟨Y, 0, some 2⟩) m c)) := by rw [hC]; exact get_push_new
      unfold boxG at hC
      rw [← hC]
      have f3 := f2.trans eC
      have e3 := (e1.trans e2).trans eC
      refine w329 (up := true) (w := w) (h := h) (s := s) (st := st) (X2 := A.n) (XS := A.n + 1) (Xo := A2.n) (Y := Y) (cap := c) (by omega) hE hst (e3.get b2) (f3.rdS hsl) (e3.get b3) x7 (eC.get hY) (by have := hsl.1; simpa using this) (by omega) (by omega) fun v1 A3 ou cur1 hou hU1 hb1 hY1 => ?_
      have hb1n := hb1.1
      have rsl3 : RdS A3 2 m (ints zs) (.slice pl m cl) := (f3.rdS hsl).keepB fun z hz => hb1.2 z (by have := hsl.blk_lt hz; have := f3.1; omega) (by have := hsl.blk_lt hz; have := f1.1; omega)
      have y2 : A3.get A.n = some (boxG w h s (.slice pl m cl)) := by rw [hb1.2 _ (by have := f3.1; omega) (by have := f1.1; omega)]; exact e3.get b2
      have y3 : A3.get (A.n + 1) = some (.cells [.int .i64 st] false) := by rw [hb1.2 _ (by omega) (by omega)]; exact e3.get b3
      have y4 : A3.get (A.n + 1 + 1) = some zeroG := by rw [hb1.2 _ (by omega) (by omega)]; exact e3.get b4
      have y7 : A3.get A2.n = some (boxG w h s (.slice (some ⟨Y, 0, some 2⟩) m c)) := by rw [hb1.2 _ (by omega) (by omega)]; exact x7
      simp (disch := as_aux_lemma => first | omega | simp only [hDs] <;> omega | simp [isCell]) [hRs, takeMarks, resA, resAll, resOne, Value.cells]
      refine w329 (up := false) (w := w) (h := h) (s := s) (st := st) (X2 := A.n) (XS := A.n + 1) (Xo := A2.n) (Y := Y) (cap := c) (by omega) hE hst y2 rsl3 y3 y7 hY1 hU1.len (by omega) (by omega) fun v2 A4 ol cur2 hol hU2 hb2 hY2 => ?_
      have hb2n := hb2.1
      have z7 : A4.get A2.n = some (boxG w h s (.slice (some ⟨Y, 0, some 2⟩) m c)) := by rw [hb2.2 _ (by omega) (by omega)]; exact y7
      have z4 : A4.get (A.n + 1 + 1) = some zeroG := by rw [hb2.2 _ (by omega) (by omega)]; exact y4
      have hZ : TigZ w h m zs st cur2 := ⟨hU2.len, ou, ol, hou, hol, fun j hj => ⟨by rw [hU2.lo j hj, if_pos ⟨rfl, hj⟩], by rw [hU2.hi j hj, if_neg (by simp), hU1.hi j hj, if_pos ⟨rfl, hj⟩]⟩⟩
      have e04 : Ext' A A4 := ⟨by have := f3.1; omega, fun z hz => by rw [hb2.2 z (by have := f3.1; omega) (by have := f1.1; omega), hb1.2 z (by have := f3.1; omega) (by have := f1.1; omega), f3.2 z hz]⟩
      have rY : RdS A4 2 m (ints cur2) (.slice (some ⟨Y, 0, some 2⟩) m c) := ⟨by rw [ints_length, hU2.len], .inr ⟨Y, c, false, rfl, hY2⟩⟩
      simp (disch := as_aux_lemma => first | omega | simp only [hDs] <;> omega | simp [isCell]) [hRs, takeMarks, resA, resAll, resOne, Value.cells, z7, boxG]
      refine w56 rY (fun i hi => ints_two (by rw [hU2.len]; omega)) says334 (by omega) fun A5 e5 => ?_
      have u4 := e5.get z4
      have u7 := e5.get z7
      cases hany : (List.range m).any (fun j => decide (gi cur2 (j * 2 + 1) < gi cur2 (j * 2))) with
      | true =>
        obtain ⟨j, hj, hlt⟩ := List.any_eq_true.1 hany
        rw [List.mem_range] at hj
        simp (disch := as_aux_lemma => first | omega | simp only [hDs] <;> omega | simp [isCell]) [hRs, takeMarks, resA, resAll, resOne, Value.cells, u4, storeB_cells, setRange_all, fillA, get_set_same u4]
        exact zz (e04.trans e5) u4 14 fun A'' vg hz => .inr (.inr ⟨hE, hst, cur2, hZ, .inr ⟨⟨j, hj, by simpa using hlt⟩, rfl, hz⟩⟩)
      | false =>
        have hall : ∀ j, j < m → gi cur2 (j * 2) ≤ gi cur2 (j * 2 + 1) := fun j hj => by
          have := List.any_eq_false.1 hany j (List.mem_range.2 hj)
          simp at this
          omega
        simp (disch := as_aux_lemma => first | omega | simp only [hDs] <;> omega | simp [isCell]) [hRs, takeMarks, resA, resAll, resOne, Value.cells, u4, u7, boxG, storeB_cells, setRange_all, get_set_same u4]
        have o1 : ∀ (b : Option ABlk) z, z ≠ A.n + 1 + 1 → (A5.set (A.n + 1 + 1) b).get z = A5.get z := fun b z hz => get_set_ne (Hp.lt_of_get u4) hz
        refine hV _ _ _ ⟨by have := e04.1; have := e5.1; simp; omega, fun z hz => by rw [o1 _ z (by omega), (e04.trans e5).2 z hz]⟩ (.inr (.inr ⟨hE, hst, cur2, hZ, .inl ⟨hall, rfl, _, rfl, ?_⟩⟩))
        exact (e5.rdS rY).keepB fun z hz => o1 _ z (by cases hz; omega)
    · have hst' : (decide (0 ≤ st) && decide (st ≤ 2400000)) = false := by
        simp
        omega
      simp (disch := as_aux_lemma => first | omega | simp only [hDs] <;> omega | simp [isCell]) [hRs, takeMarks, resA, resAll, resOne, Value.cells, hst', c4, storeB_cells, setRange_all, fillA, get_set_same c4]
      exact zz f1 c4 3 fun A'' vg hz => .inr (.inl ⟨hE, hst, rfl, hz⟩)
  · simp (disch := as_aux_lemma => first | omega | simp only [hDs] <;> omega | simp [isCell]) [hRs, takeMarks, resA, resAll, resOne, Value.cells, hE, c4, storeB_cells, setRange_all, fillA, get_set_same c4]
    exact zz f1 c4 _ fun A'' vg hz => .inl ⟨hE, rfl, hz⟩
end
end Go.Ab.Grid
set_option maxRecDepth 100000
namespace Go.Ab.Grid
open Go Go.Ab
section
variable {g : Nat} {rd : Option Nat} {T : List Value} {D : List Nat} {A : Hp} {Q : Ex → St → Prop} {V : Value → Hp → Prop}
end
end Go.Ab.Grid
set_option maxRecDepth 100000
namespace Go.Ab.Grid
open Go Go.Ab
structure RI (P : SPar) (o : List Int) (q : List Nat) : Prop where
  len : o.length = P.m
  le : ∀ c, c < P.m → -1073741824 ≤ gi o c ∧ gi o c ≤ noneV
  out : ∀ c, c < P.m → gi o c = noneV ∨ P.Der c (gi o c)
  sea : ∀ c, c ∈ q → gi o c ≤ max (P.ht c) (-1073741824)
def Still (P : SPar) (o : List Int) (c d : Nat) : Prop := gi o c ≤ max (P.ht c) (gi o d)
theorem RI.start {P : SPar} : RI P (List.replicate P.m noneV) [] := by
  have hg : ∀ c, c < P.m → gi (List.replicate P.m noneV) c = noneV := fun c hc => by simp [gi, List.getD, hc]
  exact ⟨by simp, fun c hc => by rw [hg c hc]; decide, fun c hc => .inl (hg c hc), fun c hc => by cases hc⟩
theorem RI.low {P : SPar} {o : List Int} {q : List Nat} {c d : Nat} (hP : SParOk P) (h : RI P o q) (hc : c < P.m) (hd : d < P.m) (hnb : c ∈ P.nb d) : RI P (lowO P o c (gi o d)) q := by
  have hl := h.len
  have hco : c < o.length := by omega
  have hh := hP.ht c hc
  refine ⟨by rw [lowO_length, hl], fun a ha => ?_, fun a ha => ?_, fun a ha => ?_⟩
  · rw [lowO_get hco]
    split
    · rename_i hx
      have := (h.le c hc).2
      omega
    · exact h.le a ha
  · rw [lowO_get hco]
    split
    · rename_i hx
      obtain ⟨rfl, hlt⟩ := hx
      have hle := (h.le a hc).2
      rcases h.out d hd with hn | hder
      · rw [hn] at hlt
        omega
      · exact .inr (.step hder hnb)
    · exact h.out a ha
  · exact Int.le_trans (lowO_le hco a) (h.sea a ha)
theorem RI.fin {P : SPar} {o : List Int} (h : RI P o P.sea) (hcl : ∀ c, c < P.m → ∀ d, c ∈ P.nb d → d < P.m → Still P o c d) (hP : SParOk P) : SFin P o :=
  ⟨h.len, h.le, h.out, h.sea, fun a ha _ d hd => hcl d (hP.nb a ha d hd) a hd ha⟩
def Adv (o o' : List Int) (fl fl' : Bool) (C : Prop) : Prop := (o' = o ∧ fl' = fl ∧ C) ∨ (fl' = true ∧ potS o' < potS o)
theorem Adv.refl {o : List Int} {fl : Bool} {C : Prop} (h : C) : Adv o o fl fl C := .inl ⟨rfl, rfl, h⟩
theorem Adv.trans {o o1 o2 : List Int} {fl fl1 fl2 : Bool} {C C' C'' : Prop} (h : Adv o o1 fl fl1 C) (h' : Adv o1 o2 fl1 fl2 C') (hC : o1 = o → o2 = o1 → C → C' → C'') : Adv o o2 fl fl2 C'' := by
  rcases h with ⟨rfl, rfl, h⟩ | ⟨rfl, h⟩
  · rcases h' with ⟨rfl, rfl, h'⟩ | ⟨rfl, h'⟩
    · exact .inl ⟨rfl, rfl, hC rfl rfl h h'⟩
    · exact .inr ⟨rfl, h'⟩
  · rcases h' with ⟨rfl, rfl, _⟩ | ⟨rfl, h'⟩
    · exact .inr ⟨rfl, h⟩
    · exact .inr ⟨rfl, by omega⟩
theorem Adv.low {P : SPar} {o : List Int} {c d : Nat} {fl : Bool} (hP : SParOk P) (hl : o.length = P.m) (hc : c < P.m) : Adv o (lowO P o c (gi o d)) fl (if max (P.ht c) (gi o d) < gi o c then true else fl) (Still P o c d) := by
  by_cases h : max (P.ht c) (gi o d) < gi o c
  · rw [if_pos h]
    have hh := hP.ht c hc
    exact .inr ⟨rfl, potS_low (by omega) (by omega) h⟩
  · rw [if_neg h]
    refine .inl ⟨?_, rfl, ?_⟩
    · unfold lowO; rw [if_neg h]
    · unfold Still; omega
theorem SFin.uniq {P : SPar} {o o' : List Int} (hP : SParOk P) (h : SFin P o) (h' : SFin P o') : o = o' := by
  refine list_gi (by rw [h.len, h'.len]) fun c hc => ?_
  rw [h.len] at hc
  have h1 := h.le c hc
  have h2 := h'.le c hc
  rcases h.out c hc with a | a
  · rcases h'.out c hc with b | b
    · rw [a, b]
    · have := SFin.least hP h b
      omega
  · have p := SFin.least hP h' a
    rcases h'.out c hc with b | b
    · omega
    · have := SFin.least hP h b
      omega
end Go.Ab.Grid
set_option maxRecDepth 100000
namespace Go.Ab.Grid
open Go Go.Ab
section
variable {g : Nat} {rd : Option Nat} {T : List Value} {D : List Nat} {A : Hp} {Q : Ex → St → Prop} {V : Value → Hp → Prop}
end
end Go.Ab.Grid
set_option maxRecDepth 100000
namespace Go.Ab.Grid
open Go Go.Ab
theorem cell_uniq {w x y x' y' : Int} (hx : 0 ≤ x ∧ x < w) (hx' : 0 ≤ x' ∧ x' < w) (h : y * w + x = y' * w + x') : x = x' ∧ y = y' := by
  by_cases h1 : y < y'
  · have := Int.mul_le_mul_of_nonneg_right (show y + 1 ≤ y' by omega) (show 0 ≤ w by omega)
    rw [Int.add_mul] at this
    omega
  · by_cases h2 : y' < y
    · have := Int.mul_le_mul_of_nonneg_right (show y' + 1 ≤ y by omega) (show 0 ≤ w by omega)
      rw [Int.add_mul] at this
      omega
    · have : y = y' := by omega
      subst this
      omega
theorem nbrs_symm {w h c d : Int} (hw : 1 ≤ w) (hc : 0 ≤ c ∧ c < w * h) (hd : d ∈ nbrs w h c) : (0 ≤ d ∧ d < w * h) ∧ c ∈ nbrs w h d := by
  obtain ⟨p1, p2, p3, p4, p5⟩ := cell_xy hw hc
  rw [← refNb_eq hw hc] at hd
  unfold refNb at hd
  generalize c.tmod w = x at *
  generalize c.tdiv w = y at *
  have e1 : (y + 1) * w = y * w + w := by rw [Int.add_mul, Int.one_mul]
  have e2 : (y - 1) * w = y * w - w := by rw [Int.sub_mul, Int.one_mul]
  have key : ∀ x' y' : Int, 0 ≤ x' → x' < w → 0 ≤ y' → y' < h → d = y' * w + x' → (0 ≤ d ∧ d < w * h) ∧ d.tmod w = x' ∧ d.tdiv w = y' := by
    intro x' y' h1 h2 h3 h4 e
    have m1 := Int.mul_nonneg h3 (show 0 ≤ w by omega)
    have m2 := Int.mul_le_mul_of_nonneg_right (show y' ≤ h - 1 by omega) (show 0 ≤ w by omega)
    rw [Int.sub_mul, Int.one_mul] at m2
    have hb : 0 ≤ d ∧ d < w * h := by rw [Int.mul_comm w h]; omega
    obtain ⟨q1, q2, q3, q4, q5⟩ := cell_xy hw hb
    have := cell_uniq (x := d.tmod w) (y := d.tdiv w) (x' := x') (y' := y') ⟨q1, q2⟩ ⟨h1, h2⟩ (by rw [← q5]; exact e)
    exact ⟨hb, this.1, this.2⟩
  simp only [List.mem_append] at hd
  have fin : ∀ x' y' : Int, 0 ≤ x' → x' < w → 0 ≤ y' → y' < h → d = y' * w + x' → (x' + 1 < w ∧ c = d + 1 ∨ y' + 1 < h ∧ c = d + w ∨ 0 < x' ∧ c = d - 1 ∨ 0 < y' ∧ c = d - w) → (0 ≤ d ∧ d < w * h) ∧ c ∈ nbrs w h d := by
    intro x' y' h1 h2 h3 h4 e hh
    obtain ⟨k1, k2, k3⟩ := key x' y' h1 h2 h3 h4 e
    refine ⟨k1, ?_⟩
    rw [← refNb_eq hw k1]
    unfold refNb
    rw [k2, k3]
    simp only [List.mem_append]
    rcases hh with ⟨a, b⟩ | ⟨a, b⟩ | ⟨a, b⟩ | ⟨a, b⟩
    · rw [if_pos a]; exact .inl (.inl (.inl (by simp [b])))
    · rw [if_pos a]; exact .inl (.inl (.inr (by simp [b])))
    · rw [if_pos a]; exact .inl (.inr (by simp [b]))
    · rw [if_pos a]; exact .inr (by simp [b])
  rcases hd with ((hd | hd) | hd) | hd
  · split at hd
    · rw [List.mem_singleton] at hd
      exact fin (x + 1) y (by omega) (by omega) p3 p4 (by omega) (.inr (.inr (.inl ⟨by omega, by omega⟩)))
    · cases hd
  · split at hd
    · rw [List.mem_singleton] at hd
      exact fin x (y + 1) p1 p2 (by omega) (by omega) (by omega) (.inr (.inr (.inr ⟨by omega, by omega⟩)))
    · cases hd
  · split at hd
    · rw [List.mem_singleton] at hd
      exact fin (x - 1) y (by omega) (by omega) p3 p4 (by omega) (.inl ⟨by omega, by omega⟩)
    · cases hd
  · split at hd
    · rw [List.mem_singleton] at hd
      exact fin x (y - 1) p1 p2 (by omega) (by omega) (by omega) (.inr (.inl ⟨by omega, by omega⟩))
    · cases hd
section
variable {g : Nat} {rd : Option Nat} {T : List Value} {D : List Nat} {A : Hp} {Q : Ex → St → Prop} {V : Value → Hp → Prop}
end
end Go.Ab.Grid
set_option maxRecDepth 100000
namespace Go.Ab.Grid
open Go Go.Ab
structure RS (w h : Int) (m : Nat) (zs : List Int) (st : Int) (cur : List Int) : Prop where
  len : cur.length = m * 2
  up : ∀ c, c < m → (tPar true w h m zs st).Der c (gi cur (c * 2 + 1)) ∧ gi cur (c * 2 + 1) ≤ gi zs (c * 2 + 1)
  lo : ∀ c, c < m → (tPar false w h m zs st).Der c (-(gi cur (c * 2))) ∧ gi zs (c * 2) ≤ gi cur (c * 2)
  vd : ∀ c, c < m → gi cur (c * 2) ≤ gi cur (c * 2 + 1)
def Shut (st : Int) (cur : List Int) (c d : Nat) : Prop := gi cur (d * 2) - st ≤ gi cur (c * 2) ∧ gi cur (c * 2 + 1) ≤ gi cur (d * 2 + 1) + st
def met (st : Int) (cur : List Int) (c d : Nat) : List Int := wset cur c (gi cur (d * 2) - st) (gi cur (d * 2 + 1) + st)
def metLo (st : Int) (cur : List Int) (c d : Nat) : Int := max (gi cur (c * 2)) (gi cur (d * 2) - st)
def metHi (st : Int) (cur : List Int) (c d : Nat) : Int := min (gi cur (c * 2 + 1)) (gi cur (d * 2 + 1) + st)
section
variable {w h s st : Int} {m : Nat} {zs cur : List Int}
theorem RS.start (hE : gridE w h s m zs = 0) (hl : zs.length = m * 2) : RS w h m zs st zs := by
  have hv := (gridE_parts hE).2.2.2
  exact ⟨hl, fun c hc => ⟨.base hc, Int.le_refl _⟩, fun c hc => ⟨.base hc, Int.le_refl _⟩, fun c hc => (hv c hc).2.1⟩
theorem RS.der (hr : RS w h m zs st cur) {c d : Nat} (hc : c < m) (hd : d < m) (hnb : (c : Int) ∈ nbrs w h d) : (tPar true w h m zs st).Der c (metHi st cur c d) ∧ (tPar false w h m zs st).Der c (-(metLo st cur c d)) := by
  have hn : c ∈ (nbrs w h d).map Int.toNat := List.mem_map.2 ⟨(c : Int), hnb, by simp⟩
  refine ⟨?_, ?_⟩
  · unfold metHi
    by_cases h : gi cur (c * 2 + 1) ≤ gi cur (d * 2 + 1) + st
    · rw [Int.min_eq_left h]; exact (hr.up c hc).1
    · rw [Int.min_eq_right (by omega)]; exact (hr.up d hd).1.step hn
  · unfold metLo
    by_cases h : gi cur (d * 2) - st ≤ gi cur (c * 2)
    · rw [Int.max_eq_left h]; exact (hr.lo c hc).1
    · rw [Int.max_eq_right (by omega), show -(gi cur (d * 2) - st) = -(gi cur (d * 2)) + st by omega]; exact (hr.lo d hd).1.step hn
theorem met_lo {c d j : Nat} (hl : cur.length = m * 2) (hc : c < m) : gi (met st cur c d) (j * 2) = if j = c then metLo st cur c d else gi cur (j * 2) := wset_lo (by omega)
theorem met_hi {c d j : Nat} (hl : cur.length = m * 2) (hc : c < m) : gi (met st cur c d) (j * 2 + 1) = if j = c then metHi st cur c d else gi cur (j * 2 + 1) := wset_hi (by omega)
theorem met_len {c d : Nat} : (met st cur c d).length = cur.length := by simp [met, wset]
theorem RS.next (hr : RS w h m zs st cur) {c d : Nat} (hc : c < m) (hd : d < m) (hnb : (c : Int) ∈ nbrs w h d) (hf : metLo st cur c d ≤ metHi st cur c d) : RS w h m zs st (met st cur c d) := by
  have hl := hr.len
  obtain ⟨d1, d2⟩ := hr.der hc hd hnb
  refine ⟨by rw [met_len, hl], fun j hj => ?_, fun j hj => ?_, fun j hj => ?_⟩
  · rw [met_hi hl hc]
    by_cases h : j = c
    · subst h
      rw [if_pos rfl]
      exact ⟨d1, by have := (hr.up j hj).2; unfold metHi; omega⟩
    · rw [if_neg h]; exact hr.up j hj
  · rw [met_lo hl hc]
    by_cases h : j = c
    · subst h
      rw [if_pos rfl]
      exact ⟨d2, by have := (hr.lo j hj).2; unfold metLo; omega⟩
    · rw [if_neg h]; exact hr.lo j hj
  · rw [met_lo hl hc, met_hi hl hc]
    by_cases h : j = c
    · rw [if_pos h, if_pos h]; exact hf
    · rw [if_neg h, if_neg h]; exact hr.vd j hj
theorem RS.clash (hE : gridE w h s m zs = 0) (hst : 0 ≤ st ∧ st ≤ 2400000) (hr : RS w h m zs st cur) {c d : Nat} (hc : c < m) (hd : d < m) (hnb : (c : Int) ∈ nbrs w h d) (hf : metHi st cur c d < metLo st cur c d) {Z : List Int} (hZ : TigZ w h m zs st Z) : gi Z (c * 2 + 1) < gi Z (c * 2) := by
  obtain ⟨_, ou, ol, a1, a2, a3⟩ := hZ
  obtain ⟨d1, d2⟩ := hr.der hc hd hnb
  have e1 := a1.least (tPar_ok (up := true) hE hst) d1
  have e2 := a2.least (tPar_ok (up := false) hE hst) d2
  have := a3 c hc
  omega
theorem RS.same (hr : RS w h m zs st cur) {c d : Nat} (hc : c < m) (h1 : metLo st cur c d = gi cur (c * 2)) (h2 : metHi st cur c d = gi cur (c * 2 + 1)) : met st cur c d = cur ∧ Shut st cur c d := by
  have hl := hr.len
  refine ⟨list_gi met_len fun i hi => ?_, by unfold metLo at h1; unfold metHi at h2; unfold Shut; omega⟩
  rw [met_len, hl] at hi
  obtain ⟨j, hj⟩ : ∃ j, i = j * 2 ∨ i = j * 2 + 1 := ⟨i / 2, by omega⟩
  rcases hj with rfl | rfl
  · rw [met_lo hl hc]
    split
    · rename_i h; subst h; exact h1
    · rfl
  · rw [met_hi hl hc]
    split
    · rename_i h; subst h; exact h2
    · rfl
def sumR (f : Nat → Nat) : Nat → Nat
  | 0 => 0
  | n + 1 => sumR f n + f n
theorem sumR_le {f f' : Nat → Nat} : ∀ {n : Nat}, (∀ j, j < n → f' j ≤ f j) → sumR f' n ≤ sumR f n
  | 0, _ => Nat.le_refl _
  | n + 1, h => by
    have := sumR_le (n := n) fun j hj => h j (by omega)
    have := h n (by omega)
    simp only [sumR]; omega
theorem sumR_lt {f f' : Nat → Nat} : ∀ {n c : Nat}, (∀ j, j < n → f' j ≤ f j) → c < n → f' c < f c → sumR f' n < sumR f n
  | 0, _, _, h, _ => by omega
  | n + 1, c, h, hc, hlt => by
    have hn := h n (by omega)
    simp only [sumR]
    by_cases hcn : c = n
    · subst hcn
      have := sumR_le (n := c) fun j hj => h j (by omega)
      omega
    · have := sumR_lt (n := n) (c := c) (fun j hj => h j (by omega)) (by omega) hlt
      omega
def wid (m : Nat) (cur : List Int) : Nat := sumR (fun j => (gi cur (j * 2 + 1) - gi cur (j * 2)).toNat) m
theorem RS.less (hr : RS w h m zs st cur) {c d : Nat} (hc : c < m) (hf : metLo st cur c d ≤ metHi st cur c d) (hne : ¬ (metLo st cur c d = gi cur (c * 2) ∧ metHi st cur c d = gi cur (c * 2 + 1))) : wid m (met st cur c d) < wid m cur := by
  have hl := hr.len
  have b1 : gi cur (c * 2) ≤ metLo st cur c d := by unfold metLo; omega
  have b2 : metHi st cur c d ≤ gi cur (c * 2 + 1) := by unfold metHi; omega
  refine sumR_lt (c := c) (fun j hj => ?_) hc ?_
  · rw [met_lo hl hc, met_hi hl hc]
    by_cases h : j = c
    · subst h; rw [if_pos rfl, if_pos rfl]; omega
    · rw [if_neg h, if_neg h]; exact Nat.le_refl _
  · rw [met_lo hl hc, met_hi hl hc, if_pos rfl, if_pos rfl]
    omega
theorem RS.fin (hE : gridE w h s m zs = 0) (hr : RS w h m zs st cur) (hs : ∀ c d : Nat, c < m → (d : Int) ∈ nbrs w h c → Shut st cur c d) : TigZ w h m zs st cur := by
  obtain ⟨hw, hh, hmw, hv⟩ := gridE_parts hE
  have g1 : ∀ (f : Nat → Int) (j : Nat), j < m → gi ((List.range m).map f) j = f j := fun f j hj => by simp [gi, List.getD, hj]
  have sym : ∀ a d : Nat, a < m → d ∈ (nbrs w h a).map Int.toNat → d < m ∧ (a : Int) ∈ nbrs w h d := fun a d ha hd => by
    obtain ⟨x, hx, hxd⟩ := List.mem_map.1 hd
    obtain ⟨⟨x0, x1⟩, x2⟩ := nbrs_symm hw.1 ⟨show (0 : Int) ≤ (a : Int) by omega, by omega⟩ hx
    have : x = (d : Int) := by omega
    subst this
    exact ⟨by omega, x2⟩
  refine ⟨hr.len, (List.range m).map fun c => gi cur (c * 2 + 1), (List.range m).map fun c => -(gi cur (c * 2)), ⟨by simp [tPar], fun c hc => ?_, fun c hc => ?_, fun a ha d hd => ?_⟩, ⟨by simp [tPar], fun c hc => ?_, fun c hc => ?_, fun a ha d hd => ?_⟩, fun j hj => ?_⟩
  · rw [g1 _ c hc]; exact (hr.up c hc).2
  · rw [g1 _ c hc]; exact (hr.up c hc).1
  · obtain ⟨hdm, hs'⟩ := sym a d ha hd
    rw [g1 _ a ha, g1 _ d hdm]
    exact (hs d a hdm hs').2
  · rw [g1 _ c hc]
    have := (hr.lo c hc).2
    show -(gi cur (c * 2)) ≤ -(gi zs (c * 2))
    omega
  · rw [g1 _ c hc]; exact (hr.lo c hc).1
  · obtain ⟨hdm, hs'⟩ := sym a d ha hd
    rw [g1 _ a ha, g1 _ d hdm]
    have := (hs d a hdm hs').1
    show -(gi cur (d * 2)) ≤ -(gi cur (a * 2)) + st
    omega
  · rw [g1 _ j hj, g1 _ j hj]
    omega
end
end Go.Ab.Grid
set_option maxRecDepth 100000
namespace Go.Ab.Grid
open Go Go.Ab
def body305a : ACode := (.seq
 (.seq
 (.ops [
oM 26 8])
 (.cond (.t 26)
 .skip
 (.exit 0)))
 (.block 1
 (.seq
 (.ops [
oP 8 (.move (.k (.bool false)))])
 (.seq
 (.ops [
oP 9 (.move (oK 0))])
 (.block 2
 (.loop
 (.seq
 (.seq
 (.ops [
oM 27 9,
oF 28 7 3,
oL 29 28,
oP 30 (.len (.t 29)),
oB 31 .lss 27 30])
 (.cond (.t 31)
 .skip
 (.exit 2)))
 (.seq
 (.block 3
 (.seq
 (.ops [
oD 34 2 4,
oM 35 9,
oA 36 73 [.t 34, .t 35] false,
oM 10 36])
 (.seq
 (.ops [
oP 11 (.move (oK 0))])
 (.block 4
 (.loop
 (.seq
 (.seq
 (.ops [
oM 37 11,
oM 38 10,
oP 39 (.len (.t 38)),
oB 40 .lss 37 39])
 (.cond (.t 40)
 .skip
 (.exit 4)))
 (.seq
 (.block 5
 (.seq
 (.ops [
oF 43 7 3,
oL 44 43,
oM 45 10,
oM 46 11,
oI 47 45 46 1,
oL 48 47,
oI 49 44 48 2,
oD 50 49 2,
oP 12 (.alloc [.int .i64 0, .int .i64 0]),
oT 12 50 2])
 (.seq
 (.ops [
oF 51 7 3,
oL 52 51,
oM 53 9,
oI 54 52 53 2,
oF 55 54 0,
oL 56 55,
oF 57 12 0,
oL 58 57,
oM 59 1,
oB 60 .sub 58 59,
oP 61 (.max [.t 56, .t 60]),
oF 62 7 3,
oL 63 62,
oM 64 9,
oI 65 63 64 2,
oF 66 65 1,
oL 67 66,
oF 68 12 1,
oL 69 68,
oM 70 1,
oB 71 .add 69 70,
oP 72 (.min [.t 67, .t 71]),
oP 73 (.build [.int .i64 0, .int .i64 0] [(0, 1, .t 61), (1, 1, .t 72)]),
oP 13 (.alloc [.int .i64 0, .int .i64 0]),
oT 13 73 2])
 (.seq
 (.seq
 (.ops [
oF 74 13 0,
oL 75 74,
oF 76 13 1,
oL 77 76,
oB 78 .gtr 75 77])
 (.cond (.t 78)
 (.seq
 (.ops [
oP 79 (.build [.int .i64 0, .int .i64 0, .int .i64 0, .slice none 0 0] []),
oT 4 79 4,
oP 5 (.move (oK 14))])
 .ret)
 .skip))
 (.seq
 (.ops [
oM 80 8,
oM 81 80,
oQ 82 81 false (.load (.t 13) (some 2)),
oQ 83 81 false (.fieldAddr (.t 7) 3),
oQ 84 81 false (.load (.t 83) none),
oN 85 81 false 9,
oQ 86 81 false (.idxS (.t 84) (.t 85) 2),
oQ 87 81 false (.load (.t 86) (some 2)),
oQ 88 81 false (.eqv true [false, false] (.t 82) (.t 87)),
oP 89 (.pick (.t 81) (.k (.bool true)) (.t 88)),
oM 8 89])
 (.ops [
oF 90 7 3,
oL 91 90,
oM 92 9,
oD 93 13 2,
oI 94 91 92 2,
oT 94 93 2]))))))
 (.ops [
oM 41 11,
oC 42 .add 41 1,
oM 11 42]))))))))
 (.ops [
oM 32 9,
oC 33 .add 32 1,
oM 9 33])))))))))
def body305b : ACode := (.seq
 (.seq
 (.ops [
oM 27 9,
oF 28 7 3,
oL 29 28,
oP 30 (.len (.t 29)),
oB 31 .lss 27 30])
 (.cond (.t 31)
 .skip
 (.exit 2)))
 (.seq
 (.block 3
 (.seq
 (.ops [
oD 34 2 4,
oM 35 9,
oA 36 73 [.t 34, .t 35] false,
oM 10 36])
 (.seq
 (.ops [
oP 11 (.move (oK 0))])
 (.block 4
 (.loop
 (.seq
 (.seq
 (.ops [
oM 37 11,
oM 38 10,
oP 39 (.len (.t 38)),
oB 40 .lss 37 39])
 (.cond (.t 40)
 .skip
 (.exit 4)))
 (.seq
 (.block 5
 (.seq
 (.ops [
oF 43 7 3,
oL 44 43,
oM 45 10,
oM 46 11,
oI 47 45 46 1,
oL 48 47,
oI 49 44 48 2,
oD 50 49 2,
oP 12 (.alloc [.int .i64 0, .int .i64 0]),
oT 12 50 2])
 (.seq
 (.ops [
oF 51 7 3,
oL 52 51,
oM 53 9,
oI 54 52 53 2,
oF 55 54 0,
oL 56 55,
oF 57 12 0,
oL 58 57,
oM 59 1,
oB 60 .sub 58 59,
oP 61 (.max [.t 56, .t 60]),
oF 62 7 3,
oL 63 62,
oM 64 9,
oI 65 63 64 2,
oF 66 65 1,
oL 67 66,
oF 68 12 1,
oL 69 68,
oM 70 1,
oB 71 .add 69 70,
oP 72 (.min [.t 67, .t 71]),
oP 73 (.build [.int .i64 0, .int .i64 0] [(0, 1, .t 61), (1, 1, .t 72)]),
oP 13 (.alloc [.int .i64 0, .int .i64 0]),
oT 13 73 2])
 (.seq
 (.seq
 (.ops [
oF 74 13 0,
oL 75 74,
oF 76 13 1,
oL 77 76,
oB 78 .gtr 75 77])
 (.cond (.t 78)
 (.seq
 (.ops [
oP 79 (.build [.int .i64 0, .int .i64 0, .int .i64 0, .slice none 0 0] []),
oT 4 79 4,
oP 5 (.move (oK 14))])
 .ret)
 .skip))
 (.seq
 (.ops [
oM 80 8,
oM 81 80,
oQ 82 81 false (.load (.t 13) (some 2)),
oQ 83 81 false (.fieldAddr (.t 7) 3),
oQ 84 81 false (.load (.t 83) none),
oN 85 81 false 9,
oQ 86 81 false (.idxS (.t 84) (.t 85) 2),
oQ 87 81 false (.load (.t 86) (some 2)),
oQ 88 81 false (.eqv true [false, false] (.t 82) (.t 87)),
oP 89 (.pick (.t 81) (.k (.bool true)) (.t 88)),
oM 8 89])
 (.ops [
oF 90 7 3,
oL 91 90,
oM 92 9,
oD 93 13 2,
oI 94 91 92 2,
oT 94 93 2]))))))
 (.ops [
oM 41 11,
oC 42 .add 41 1,
oM 11 42]))))))))
 (.ops [
oM 32 9,
oC 33 .add 32 1,
oM 9 33])))
def PI (st : Int) (m : Nat) (cur0 : List Int) (ch : Bool) (cur : List Int) (done : Nat → Nat → Prop) : Prop := (ch = false ∧ cur = cur0 ∧ ∀ c d, done c d → Shut st cur c d) ∨ (ch = true ∧ wid m cur < wid m cur0)
structure RC (g : Nat) (A0 : Hp) (X2 X4 X7 Y cap m : Nat) (w h s st : Int) (zs : List Int) (sl : Value) : Prop where
  hE : gridE w h s m zs = 0
  st : 0 ≤ st ∧ st ≤ 2400000
  x2 : A0.get X2 = some (boxG w h s sl)
  x4 : A0.get X4 = some zeroG
  x7 : A0.get X7 = some (boxG w h s (.slice (some ⟨Y, 0, some 2⟩) m cap))
  ne : X2 ≠ Y ∧ X4 ≠ Y ∧ X7 ≠ Y
  yn : Y < A0.n
  g : g ≤ Y ∧ g ≤ X4
  zl : zs.length = m * 2
def Bad (w h : Int) (m : Nat) (zs : List Int) (st : Int) : Prop := ∀ Z, TigZ w h m zs st Z → ∃ j, j < m ∧ gi Z (j * 2 + 1) < gi Z (j * 2)
section
variable {g : Nat} {rd : Option Nat} {T : List Value} {D : List Nat} {A : Hp} {Q : Ex → St → Prop} {V : Value → Hp → Prop}
variable {A0 : Hp} {X2 X4 X7 Y cap m : Nat} {w h s st : Int} {zs : List Int} {sl : Value}
theorem loop305c {c : Nat} {cur0 : List Int} {nv : Value} {dn : Nat → Nat → Prop} {T0 : List Value} (hc : RC g A0 X2 X4 X7 Y cap m w h s st zs sl) (hcm : c < m)
    (t1 : tget T0 1 = .int .i64 st) (t4 : tget T0 4 = .pointer (some ⟨X4, 0, none⟩)) (t7 : tget T0 7 = .pointer (some ⟨X7, 0, none⟩)) (t9 : tget T0 9 = .int .i64 c)
    (hQ : ∀ T' A' cur ch, But Y A0 A' → A'.get Y = some (.cells (ints cur) false) → RS w h m zs st cur → PI st m cur0 ch cur (fun a d => dn a d ∨ a = c ∧ (d : Int) ∈ nbrs w h c) → (∀ t, t = 1 ∨ t = 2 ∨ t = 4 ∨ t = 7 ∨ t = 9 → tget T' t = tget T0 t) → tget T' 8 = .bool ch → Q (.exit 4) ⟨T', D, A'⟩)
    (hR : ∀ T' A', But Y A0 A' → A'.get X4 = some zeroG → Bad w h m zs st → tget T' 4 = .pointer (some ⟨X4, 0, none⟩) → tget T' 5 = .int .i64 14 → Q .ret ⟨T', D, A'⟩) :
    ∀ (k i : Nat) {T : List Value} {A : Hp} (cur : List Int) (ch : Bool), i + k = (nbrs w h c).length → But Y A0 A → A.get Y = some (.cells (ints cur) false) → RS w h m zs st cur → PI st m cur0 ch cur (fun a d => dn a d ∨ a = c ∧ (d : Int) ∈ (nbrs w h c).take i) →
      RdS A 1 (nbrs w h c).length (ints (nbrs w h c)) nv → (∀ z, blkOf nv = some z → z ≠ Y) → (∀ t, t = 1 ∨ t = 2 ∨ t = 4 ∨ t = 7 ∨ t = 9 → tget T t = tget T0 t) → tget T 8 = .bool ch → tget T 10 = nv → tget T 11 = .int .i64 i → W AP KL g rd (.loop body305c) ⟨T, D, A⟩ Q := by
  intro k
  obtain ⟨hw, hh, hmw, hv⟩ := gridE_parts hc.hE
  have c24 : w * h ≤ 24 * 24 := Int.mul_le_mul hw.2 hh.2 (by omega) (by omega)
  have hLl : (nbrs w h c).length ≤ 4 := nbI_len (w := w) (h := h) (c := c) (i := 4) (by omega)
  have hst := hc.st
  have hne := hc.ne
  have hyn := hc.yn
  have hg := hc.g
  have x4n := Hp.lt_of_get hc.x4
  have x7n := Hp.lt_of_get hc.x7
  induction k with
  | zero =>
    intro i T A cur ch hi hb hY hS hP hnv hnY hk t8 t10 t11
    have : i = (nbrs w h c).length := by omega
    subst this
    have hl := hnv.len
    rw [W_loop]
    simp (disch := as_aux_lemma => first | omega | simp only [hDs] <;> omega | simp [isCell]) [hRs, takeMarks, resA, resAll, resOne, Value.cells, body305c, t10, t11, hl]
    refine hQ _ _ cur ch hb hY hS ?_ (fun t ht => ?_) (by simp [t8])
    · rw [List.take_length] at hP; exact hP
    · rw [← hk t ht]
      rcases ht with rfl | rfl | rfl | rfl | rfl <;> simp
  | succ k ih =>
    intro i T A cur ch hi hb hY hS hP hnv hnY hk t8 t10 t11
    have hin : i < (nbrs w h c).length := by omega
    have e5 : wr .i64 ((i : Int) + 1) = ((i + 1 : Nat) : Int) := by rw [wrId (by omega) (by omega)]; simp
    have hl := hnv.len
    have hbn := hb.1
    have hsl := hS.len
    have k1 := (hk 1 (by simp)).trans t1
    have k4 := (hk 4 (by simp)).trans t4
    have k7 := (hk 7 (by simp)).trans t7
    have k9 := (hk 9 (by simp)).trans t9
    have aX4 : A.get X4 = some zeroG := by rw [hb.2 _ x4n hne.2.1]; exact hc.x4
    have aX7 : A.get X7 = some (boxG w h s (.slice (some ⟨Y, 0, some 2⟩) m cap)) := by rw [hb.2 _ x7n hne.2.2]; exact hc.x7
    have hgi : gi (nbrs w h c) i = (nbrs w h c)[i] := by simp [gi, List.getD, hin]
    have hmem : gi (nbrs w h c) i ∈ nbrs w h c := by rw [hgi]; exact List.getElem_mem _
    obtain ⟨⟨d0, d1⟩, d2⟩ := nbrs_symm hw.1 ⟨show (0 : Int) ≤ (c : Int) by omega, by omega⟩ hmem
    obtain ⟨d, hdi⟩ : ∃ d : Nat, gi (nbrs w h c) i = (d : Int) := ⟨(gi (nbrs w h c) i).toNat, by omega⟩
    rw [hdi] at d0 d1 d2 hmem
    have hdm : d < m := by omega
    have tk : (nbrs w h c).take (i + 1) = (nbrs w h c).take i ++ [(d : Int)] := by
      rw [List.take_add_one, List.getElem?_eq_getElem hin, ← hgi, hdi]; rfl
    obtain ⟨nb, nc, nr, hnv', hnb⟩ := hnv.at hin
    have hnbn := Hp.lt_of_get hnb
    have k10 := t10.trans hnv'
    rw [hnv'] at hl
    have vc := hv c hcm
    have vd := hv d hdm
    have sc1 := (hS.up c hcm).2
    have sc2 := (hS.lo c hcm).2
    have sc3 := hS.vd c hcm
    have sd1 := (hS.up d hdm).2
    have sd2 := (hS.lo d hdm).2
    have sd3 := hS.vd d hdm
    have e1 : wr .i64 (gi cur (d * 2) - st) = gi cur (d * 2) - st := wrId (by omega) (by omega)
    have e2 : wr .i64 (gi cur (d * 2 + 1) + st) = gi cur (d * 2 + 1) + st := wrId (by omega) (by omega)
    obtain ⟨lo', hlo'⟩ : ∃ lo', lo' = metLo st cur c d := ⟨_, rfl⟩
    obtain ⟨hi', hhi'⟩ : ∃ hi', hi' = metHi st cur c d := ⟨_, rfl⟩
    have hml : max (gi cur (c * 2)) (gi cur (d * 2) - st) = lo' := by rw [hlo']; rfl
    have hmh : min (gi cur (c * 2 + 1)) (gi cur (d * 2 + 1) + st) = hi' := by rw [hhi']; rfl
    obtain ⟨B, hB⟩ : ∃ B, B = (A.push (.cells [.int .i64 (gi cur (d * 2)), .int .i64 (gi cur (d * 2 + 1))] false)).push (.cells [.int .i64 lo', .int .i64 hi'] false) := ⟨_, rfl⟩
    have eB : Ext' A B := by rw [hB]; exact (Ext'.push _ _).trans (Ext'.push _ _)
    have nB : B.n = A.n + 2 := by rw [hB]; rfl
    have b13 : B.get (A.n + 1) = some (.cells [.int .i64 lo', .int .i64 hi'] false) := by rw [hB, get_push_eq (by simp)]
    have bY := eB.get hY
    have b4 := eB.get aX4
    have b7 := eB.get aX7
    have hbB := hb.trans (But.of_ext eB)
    rw [W_loop]
    by_cases hcl : hi' < lo'
    · simp (disch := as_aux_lemma => first | omega | simp only [hDs] <;> omega | simp [isCell]) [hRs, takeMarks, resA, resAll, resOne, Value.cells, body305c, k1, k4, k7, k9, k10, t11, hl, show ((i : Int) < ((nbrs w h c).length : Int)) by omega, hin, idxSA_ok, hnb, ints_get hin, hdi, aX7, boxG, hY, hdm, hcm, ints_two (show d * 2 + 2 ≤ cur.length by omega), ints_get (show c * 2 < cur.length by omega), ints_get (show c * 2 + 1 < cur.length by omega), fillA, storeB_cells, setRange_all, setRange, set_push_eq, e1, e2, hml, hmh, ← hB, b13, hcl, b4, zeroG]
      refine hR _ _ (hbB.trans (But.of_ext (set_same b4))) (get_set_same b4) (fun Z hZ => ⟨c, hcm, hS.clash hc.hE hst hcm hdm d2 (by rw [← hlo', ← hhi']; exact hcl) hZ⟩) (by simp [k4]) (by simp)
    · have hfit : metLo st cur c d ≤ metHi st cur c d := by rw [← hlo', ← hhi']; omega
      have hS' := hS.next hcm hdm d2 hfit
      have st1 : storeB (some (.cells (ints cur) false)) g B Y (c * 2) [.int .i64 lo', .int .i64 hi'] 2 = some (undef, B.set Y (some (.cells (ints (met st cur c d)) false))) := by
        have := storeB_cells (A := B) (g := g) (k := Y) (o := c * 2) (size := 2) (cs := ints cur) (vs := [.int .i64 lo', .int .i64 hi']) rfl hg.1 (by rw [ints_length]; omega) rfl
        rw [setRange_two (by omega)] at this
        rw [this, hlo', hhi']
        rfl
      have hb' : But Y A0 (B.set Y (some (.cells (ints (met st cur c d)) false))) := hbB.trans (But.set (by omega) ⟨Nat.le_refl _, fun _ _ => rfl⟩)
      have hnv2 : RdS (B.set Y (some (.cells (ints (met st cur c d)) false))) 1 (nbrs w h c).length (ints (nbrs w h c)) nv := (eB.rdS hnv).keepB fun z hz => get_set_ne (by omega) (hnY z hz)
      have hfin : ∀ T' ch', PI st m cur0 ch' (met st cur c d) (fun a e => dn a e ∨ a = c ∧ (e : Int) ∈ (nbrs w h c).take (i + 1)) → (tget T' 1 = tget T 1 ∧ tget T' 2 = tget T 2 ∧ tget T' 4 = tget T 4 ∧ tget T' 7 = tget T 7 ∧ tget T' 9 = tget T 9) → tget T' 8 = .bool ch' → tget T' 10 = nv → tget T' 11 = .int .i64 ((i + 1 : Nat) : Int) →
          W AP KL g rd (.loop body305c) ⟨T', D, B.set Y (some (.cells (ints (met st cur c d)) false))⟩ Q := fun T' ch' q1 q2 q3 q4 q5 => by
        refine ih (i + 1) (met st cur c d) ch' (by omega) hb' (get_set_same bY) hS' q1 hnv2 hnY (fun t ht => ?_) q3 q4 q5
        rw [← hk t ht]
        rcases ht with rfl | rfl | rfl | rfl | rfl <;> simp [q2]
      cases ch with
      | true =>
        rcases hP with ⟨h0, _⟩ | ⟨_, hwd⟩
        · cases h0
        · simp (disch := as_aux_lemma => first | omega | simp only [hDs] <;> omega | simp [isCell]) [hRs, takeMarks, resA, resAll, resOne, Value.cells, body305c, k1, k4, k7, k9, k10, t8, t11, hl, show ((i : Int) < ((nbrs w h c).length : Int)) by omega, hin, idxSA_ok, hnb, ints_get hin, hdi, aX7, boxG, hY, hdm, hcm, ints_two (show d * 2 + 2 ≤ cur.length by omega), ints_get (show c * 2 < cur.length by omega), ints_get (show c * 2 + 1 < cur.length by omega), fillA, storeB_cells, setRange_all, setRange, set_push_eq, e1, e2, hml, hmh, ← hB, b13, hcl, b7, bY, st1, e5]
          refine hfin _ true (.inr ⟨rfl, ?_⟩) (by simp) (by simp) (by simp [t10]) (by simp)
          by_cases hsame : metLo st cur c d = gi cur (c * 2) ∧ metHi st cur c d = gi cur (c * 2 + 1)
          · rw [(hS.same hcm hsame.1 hsame.2).1]; exact hwd
          · exact Nat.lt_trans (hS.less hcm hfit hsame) hwd
      | false =>
        rcases hP with ⟨_, hcur, hdn⟩ | ⟨h0, _⟩
        rotate_left
        · cases h0
        by_cases hsame : metLo st cur c d = gi cur (c * 2) ∧ metHi st cur c d = gi cur (c * 2 + 1)
        · have h1 : lo' = gi cur (c * 2) := by rw [hlo']; exact hsame.1
          have h2 : hi' = gi cur (c * 2 + 1) := by rw [hhi']; exact hsame.2
          obtain ⟨hm1, hm2⟩ := hS.same hcm hsame.1 hsame.2
          simp (disch := as_aux_lemma => first | omega | simp only [hDs] <;> omega | simp [isCell]) [hRs, takeMarks, resA, resAll, resOne, Value.cells, body305c, k1, k4, k7, k9, k10, t8, t11, hl, show ((i : Int) < ((nbrs w h c).length : Int)) by omega, hin, idxSA_ok, hnb, ints_get hin, hdi, aX7, boxG, hY, hdm, hcm, ints_two (show d * 2 + 2 ≤ cur.length by omega), ints_two (show c * 2 + 2 ≤ cur.length by omega), ints_get (show c * 2 < cur.length by omega), ints_get (show c * 2 + 1 < cur.length by omega), fillA, storeB_cells, setRange_all, setRange, set_push_eq, e1, e2, hml, hmh, ← hB, b13, hcl, b7, bY, eqv2, decide_eq_true h1, decide_eq_true h2, st1, e5]
          refine hfin _ false (.inl ⟨rfl, by rw [hm1]; exact hcur, fun a e hae => ?_⟩) (by simp) (by simp) (by simp [t10]) (by simp)
          rw [hm1]
          rcases hae with hae | ⟨rfl, hae⟩
          · exact hdn a e (.inl hae)
          · rw [tk] at hae
            rcases List.mem_append.1 hae with h3 | h3
            · exact hdn a e (.inr ⟨rfl, h3⟩)
            · rw [List.mem_singleton] at h3
              have : e = d := by omega
              subst this
              exact hm2
        · have hdec : (decide (lo' = gi cur (c * 2)) && decide (hi' = gi cur (c * 2 + 1))) = false := by
            rw [← hlo', ← hhi'] at hsame
            simpa using hsame
          have hdec' : (!decide (lo' = gi cur (c * 2)) || !decide (hi' = gi cur (c * 2 + 1))) = true := by rw [← Bool.not_and, hdec]; rfl
          simp (disch := as_aux_lemma => first | omega | simp only [hDs] <;> omega | simp [isCell]) [hRs, takeMarks, resA, resAll, resOne, Value.cells, body305c, k1, k4, k7, k9, k10, t8, t11, hl, show ((i : Int) < ((nbrs w h c).length : Int)) by omega, hin, idxSA_ok, hnb, ints_get hin, hdi, aX7, boxG, hY, hdm, hcm, ints_two (show d * 2 + 2 ≤ cur.length by omega), ints_two (show c * 2 + 2 ≤ cur.length by omega), ints_get (show c * 2 < cur.length by omega), ints_get (show c * 2 + 1 < cur.length by omega), fillA, storeB_cells, setRange_all, setRange, set_push_eq, e1, e2, hml, hmh, ← hB, b13, hcl, b7, bY, eqv2, hdec, hdec', st1, e5]
          refine hfin _ true (.inr ⟨rfl, by rw [← hcur]; exact hS.less hcm hfit hsame⟩) (by simp) (by simp) (by simp [t10]) (by simp)
end
end Go.Ab.Grid
set_option maxRecDepth 100000
namespace Go.Ab.Grid
open Go Go.Ab
section
variable {g : Nat} {rd : Option Nat} {T : List Value} {D : List Nat} {A : Hp} {Q : Ex → St → Prop} {V : Value → Hp → Prop}
variable {A0 : Hp} {X2 X4 X7 Y cap m : Nat} {w h s st : Int} {zs : List Int} {sl : Value}
theorem loop305b {cur0 : List Int} {T0 : List Value} (hc : RC g A0 X2 X4 X7 Y cap m w h s st zs sl)
    (t1 : tget T0 1 = .int .i64 st) (t2 : tget T0 2 = .pointer (some ⟨X2, 0, none⟩)) (t4 : tget T0 4 = .pointer (some ⟨X4, 0, none⟩)) (t7 : tget T0 7 = .pointer (some ⟨X7, 0, none⟩))
    (hQ : ∀ T' A' cur ch, But Y A0 A' → A'.get Y = some (.cells (ints cur) false) → RS w h m zs st cur → PI st m cur0 ch cur (fun a d => a < m ∧ (d : Int) ∈ nbrs w h a) → (∀ t, t = 1 ∨ t = 2 ∨ t = 4 ∨ t = 7 → tget T' t = tget T0 t) → tget T' 8 = .bool ch → Q (.exit 2) ⟨T', D, A'⟩)
    (hR : ∀ T' A', But Y A0 A' → A'.get X4 = some zeroG → Bad w h m zs st → tget T' 4 = .pointer (some ⟨X4, 0, none⟩) → tget T' 5 = .int .i64 14 → Q .ret ⟨T', D, A'⟩) :
    ∀ (k i : Nat) {T : List Value} {A : Hp} (cur : List Int) (ch : Bool), i + k = m → But Y A0 A → A.get Y = some (.cells (ints cur) false) → RS w h m zs st cur → PI st m cur0 ch cur (fun a d => a < i ∧ (d : Int) ∈ nbrs w h a) →
      (∀ t, t = 1 ∨ t = 2 ∨ t = 4 ∨ t = 7 → tget T t = tget T0 t) → tget T 8 = .bool ch → tget T 9 = .int .i64 i → W AP KL g rd (.loop body305b) ⟨T, D, A⟩ Q := by
  intro k
  obtain ⟨hw, hh, hmw, hv⟩ := gridE_parts hc.hE
  have c24 : w * h ≤ 24 * 24 := Int.mul_le_mul hw.2 hh.2 (by omega) (by omega)
  have hne := hc.ne
  have hyn := hc.yn
  have hg := hc.g
  have x2n := Hp.lt_of_get hc.x2
  have x7n := Hp.lt_of_get hc.x7
  induction k with
  | zero =>
    intro i T A cur ch hi hb hY hS hP hk t8 t9
    have : i = m := by omega
    subst this
    have k7 := (hk 7 (by simp)).trans t7
    have aX7 : A.get X7 = some (boxG w h s (.slice (some ⟨Y, 0, some 2⟩) i cap)) := by rw [hb.2 _ x7n hne.2.2]; exact hc.x7
    rw [W_loop]
    simp (disch := as_aux_lemma => first | omega | simp only [hDs] <;> omega | simp [isCell]) [hRs, takeMarks, resA, resAll, resOne, Value.cells, body305b, k7, t9, aX7, boxG]
    refine hQ _ _ cur ch hb hY hS hP (fun t ht => ?_) (by simp [t8])
    rw [← hk t ht]
    rcases ht with rfl | rfl | rfl | rfl <;> simp
  | succ k ih =>
    intro i T A cur ch hi hb hY hS hP hk t8 t9
    have him : i < m := by omega
    have e5 : wr .i64 ((i : Int) + 1) = ((i + 1 : Nat) : Int) := by rw [wrId (by omega) (by omega)]; simp
    have hbn := hb.1
    have k1 := (hk 1 (by simp)).trans t1
    have k2 := (hk 2 (by simp)).trans t2
    have k4 := (hk 4 (by simp)).trans t4
    have k7 := (hk 7 (by simp)).trans t7
    have aX7 : A.get X7 = some (boxG w h s (.slice (some ⟨Y, 0, some 2⟩) m cap)) := by rw [hb.2 _ x7n hne.2.2]; exact hc.x7
    have aX2 : A.get X2 = some (boxG w h s sl) := by rw [hb.2 _ x2n hne.1]; exact hc.x2
    rw [W_loop]
    simp (disch := as_aux_lemma => first | omega | simp only [hDs] <;> omega | simp [isCell]) [hRs, takeMarks, resA, resAll, resOne, Value.cells, body305b, k2, k7, t9, aX7, aX2, boxG, show ((i : Int) < m) by omega, him]
    refine w73 (w := w) (h := h) (s := s) (sl := sl) hw hh ⟨by omega, by omega⟩ (by omega) fun A1 nv e1 hacc => ?_
    rw [refNb_eq hw.1 ⟨by omega, by omega⟩] at hacc
    have hnv : RdS A1 1 (nbrs w h i).length (ints (nbrs w h i)) nv := hacc.rd (by simp) (by decide)
    have n1 := e1.1
    simp (disch := as_aux_lemma => first | omega | simp only [hDs] <;> omega | simp [isCell]) [hRs, takeMarks, resA, resAll, resOne, Value.cells]
    refine loop305c (c := i) (cur0 := cur0) (nv := nv) (dn := fun a d => a < i ∧ (d : Int) ∈ nbrs w h a) (T0 := T) hc him k1 k4 k7 t9 (fun T' A' cur' ch' q1 q2 q3 q4 q5 q6 => ?_) (fun T' A' r1 r2 r3 r4 r5 => by
      simp (disch := as_aux_lemma => first | omega | simp only [hDs] <;> omega | simp [isCell]) [hRs, takeMarks, resA, resAll, resOne, Value.cells]
      exact hR _ _ r1 r2 r3 (by simp [r4]) (by simp [r5])) (nbrs w h i).length 0 cur ch (Nat.zero_add _) (hb.trans (But.of_ext e1)) (e1.get hY) hS ?_ hnv (fun z hz => by have := (hacc.blk_ge hz).1; omega) (fun t ht => ?_) ?_ ?_ ?_
    · have j9 := (q5 9 (by simp)).trans t9
      simp (disch := as_aux_lemma => first | omega | simp only [hDs] <;> omega | simp [isCell]) [hRs, takeMarks, resA, resAll, resOne, Value.cells, j9, e5]
      refine ih (i + 1) cur' ch' (by omega) q1 q2 q3 ?_ (fun t ht => ?_) ?_ ?_
      · rcases q4 with ⟨a1, a2, a3⟩ | ⟨a1, a2⟩
        · refine .inl ⟨a1, a2, fun a d had => a3 a d ?_⟩
          by_cases hai : a = i
          · subst hai; exact .inr ⟨rfl, had.2⟩
          · exact .inl ⟨by omega, had.2⟩
        · exact .inr ⟨a1, a2⟩
      · rw [← hk t ht, ← q5 t (by rcases ht with rfl | rfl | rfl | rfl <;> simp)]
        rcases ht with rfl | rfl | rfl | rfl <;> simp
      · simp [q6]
      · simp
    · rcases hP with ⟨a1, a2, a3⟩ | ⟨a1, a2⟩
      · refine .inl ⟨a1, a2, fun a d had => ?_⟩
        rcases had with had | ⟨_, had⟩
        · exact a3 a d had
        · simp at had
      · exact .inr ⟨a1, a2⟩
    · rcases ht with rfl | rfl | rfl | rfl | rfl <;> simp
    · simp [t8]
    · simp
    · simp
theorem loop305a {T0 : List Value} (hc : RC g A0 X2 X4 X7 Y cap m w h s st zs sl)
    (t1 : tget T0 1 = .int .i64 st) (t2 : tget T0 2 = .pointer (some ⟨X2, 0, none⟩)) (t4 : tget T0 4 = .pointer (some ⟨X4, 0, none⟩)) (t7 : tget T0 7 = .pointer (some ⟨X7, 0, none⟩))
    (hQ : ∀ T' A' cur, But Y A0 A' → A'.get Y = some (.cells (ints cur) false) → RS w h m zs st cur → TigZ w h m zs st cur → (∀ t, t = 1 ∨ t = 2 ∨ t = 4 ∨ t = 7 → tget T' t = tget T0 t) → Q (.exit 0) ⟨T', D, A'⟩)
    (hR : ∀ T' A', But Y A0 A' → A'.get X4 = some zeroG → Bad w h m zs st → tget T' 4 = .pointer (some ⟨X4, 0, none⟩) → tget T' 5 = .int .i64 14 → Q .ret ⟨T', D, A'⟩) :
    ∀ (K : Nat) {T : List Value} {A : Hp} (cur : List Int), wid m cur ≤ K → But Y A0 A → A.get Y = some (.cells (ints cur) false) → RS w h m zs st cur → (∀ t, t = 1 ∨ t = 2 ∨ t = 4 ∨ t = 7 → tget T t = tget T0 t) → tget T 8 = .bool true → W AP KL g rd (.loop body305a) ⟨T, D, A⟩ Q := by
  have hend : ∀ {T : List Value} {A : Hp} (cur : List Int), But Y A0 A → A.get Y = some (.cells (ints cur) false) → RS w h m zs st cur → (∀ c d : Nat, c < m ∧ (d : Int) ∈ nbrs w h c → Shut st cur c d) → (∀ t, t = 1 ∨ t = 2 ∨ t = 4 ∨ t = 7 → tget T t = tget T0 t) → tget T 8 = .bool false → W AP KL g rd (.loop body305a) ⟨T, D, A⟩ Q := by
    intro T A cur hb hY hS hsh hk t8
    rw [W_loop]
    simp (disch := as_aux_lemma => first | omega | simp only [hDs] <;> omega | simp [isCell]) [hRs, takeMarks, resA, resAll, resOne, Value.cells, body305a, t8]
    refine hQ _ _ cur hb hY hS (hS.fin hc.hE fun c d h1 h2 => hsh c d ⟨h1, h2⟩) fun t ht => ?_
    rw [← hk t ht]
    rcases ht with rfl | rfl | rfl | rfl <;> simp
  intro K
  induction K with
  | zero =>
    intro T A cur hK hb hY hS hk t8
    rw [W_loop]
    simp (disch := as_aux_lemma => first | omega | simp only [hDs] <;> omega | simp [isCell]) [hRs, takeMarks, resA, resAll, resOne, Value.cells, body305a, t8]
    refine loop305b (T0 := T0) (cur0 := cur) hc t1 t2 t4 t7 (fun T' A' cur' ch' q1 q2 q3 q4 q5 q6 => ?_) (fun T' A' r1 r2 r3 r4 r5 => by
      simp (disch := as_aux_lemma => first | omega | simp only [hDs] <;> omega | simp [isCell]) [hRs, takeMarks, resA, resAll, resOne, Value.cells]
      exact hR _ _ r1 r2 r3 (by simp [r4]) (by simp [r5])) m 0 cur false (Nat.zero_add _) hb hY hS (.inl ⟨rfl, rfl, fun a d h => absurd h.1 (Nat.not_lt_zero _)⟩) (fun t ht => ?_) ?_ ?_
    · simp (disch := as_aux_lemma => first | omega | simp only [hDs] <;> omega | simp [isCell]) [hRs, takeMarks, resA, resAll, resOne, Value.cells]
      rcases q4 with ⟨a1, _, a3⟩ | ⟨_, a2⟩
      · rw [a1] at q6
        exact hend cur' q1 q2 q3 a3 q5 q6
      · omega
    · rw [← hk t ht]
      rcases ht with rfl | rfl | rfl | rfl <;> simp
    all_goals simp
  | succ K ih =>
    intro T A cur hK hb hY hS hk t8
    rw [W_loop]
    simp (disch := as_aux_lemma => first | omega | simp only [hDs] <;> omega | simp [isCell]) [hRs, takeMarks, resA, resAll, resOne, Value.cells, body305a, t8]
    refine loop305b (T0 := T0) (cur0 := cur) hc t1 t2 t4 t7 (fun T' A' cur' ch' q1 q2 q3 q4 q5 q6 => ?_) (fun T' A' r1 r2 r3 r4 r5 => by
      simp (disch := as_aux_lemma => first | omega | simp only [hDs] <;> omega | simp [isCell]) [hRs, takeMarks, resA, resAll, resOne, Value.cells]
      exact hR _ _ r1 r2 r3 (by simp [r4]) (by simp [r5])) m 0 cur false (Nat.zero_add _) hb hY hS (.inl ⟨rfl, rfl, fun a d h => absurd h.1 (Nat.not_lt_zero _)⟩) (fun t ht => ?_) ?_ ?_
    · simp (disch := as_aux_lemma => first | omega | simp only [hDs] <;> omega | simp [isCell]) [hRs, takeMarks, resA, resAll, resOne, Value.cells]
      rcases q4 with ⟨a1, _, a3⟩ | ⟨a1, a2⟩
      · rw [a1] at q6
        exact hend cur' q1 q2 q3 a3 q5 q6
      · rw [a1] at q6
        exact ih cur' (by omega) q1 q2 q3 q5 q6
    · rw [← hk t ht]
      rcases ht with rfl | rfl | rfl | rfl <;> simp
    all_goals simp
theorem start305a {T : List Value} (hc : RC g A0 X2 X4 X7 Y cap m w h s st zs sl)
    (t1 : tget T 1 = .int .i64 st) (t2 : tget T 2 = .pointer (some ⟨X2, 0, none⟩)) (t4 : tget T 4 = .pointer (some ⟨X4, 0, none⟩)) (t7 : tget T 7 = .pointer (some ⟨X7, 0, none⟩))
    (hQ : ∀ T' A' cur, But Y A0 A' → A'.get Y = some (.cells (ints cur) false) → RS w h m zs st cur → TigZ w h m zs st cur → (∀ t, t = 1 ∨ t = 2 ∨ t = 4 ∨ t = 7 → tget T' t = tget T t) → Q (.exit 0) ⟨T', D, A'⟩)
    (hR : ∀ T' A', But Y A0 A' → A'.get X4 = some zeroG → Bad w h m zs st → tget T' 4 = .pointer (some ⟨X4, 0, none⟩) → tget T' 5 = .int .i64 14 → Q .ret ⟨T', D, A'⟩)
    (K : Nat) {A : Hp} (cur : List Int) (h1 : wid m cur ≤ K) (h2 : But Y A0 A) (h3 : A.get Y = some (.cells (ints cur) false)) (h4 : RS w h m zs st cur) (t8 : tget T 8 = .bool true) : W AP KL g rd (.loop body305a) ⟨T, D, A⟩ Q :=
  loop305a hc t1 t2 t4 t7 hQ hR K cur h1 h2 h3 h4 (fun _ _ => rfl) t8
def TgRV (A : Hp) (w h s : Int) (m : Nat) (zs : List Int) (st : Int) (vg : Value) (e : Int) : Prop :=
  (gridE w h s m zs ≠ 0 ∧ e = gridE w h s m zs ∧ GAt A G0 vg) ∨ (gridE w h s m zs = 0 ∧ ¬ (0 ≤ st ∧ st ≤ 2400000) ∧ e = 3 ∧ GAt A G0 vg) ∨
    (gridE w h s m zs = 0 ∧ (0 ≤ st ∧ st ≤ 2400000) ∧ ((∃ Z, TigZ w h m zs st Z ∧ (∀ j, j < m → gi Z (j * 2) ≤ gi Z (j * 2 + 1)) ∧ e = 0 ∧ GAt A ⟨w, h, s, m, Z⟩ vg) ∨ Bad w h m zs st ∧ e = 14 ∧ GAt A G0 vg))
theorem w305 {w h s st : Int} {m : Nat} {zs : List Int} {sl : Value} (hm : m < 1000000) (hsl : RdS A 2 m (ints zs) sl) (hg : g ≤ A.n)
    (hV : ∀ A' vg e, Ext' A A' → TgRV A' w h s m zs st vg e → V (.tuple ⟨[vg, .int .i64 e]⟩) A') : WF AP KL g 305 [gridV w h s sl, .int .i64 st] A V := by
  rw [WF_body (show KL 305 = none from rfl) (show AP 305 = some F305 from rfl)]
  obtain ⟨pl, cl, rfl⟩ := hsl.isSlice'
  obtain ⟨B, hB⟩ : ∃ B, B = (A.push (boxG w h s (.slice pl m cl))).push zeroG := ⟨_, rfl⟩
  have eB : Ext' A B := by rw [hB]; exact (Ext'.push _ _).trans (Ext'.push _ _)
  have nB : B.n = A.n + 2 := by rw [hB]; rfl
  have b2 : B.get A.n = some (boxG w h s (.slice pl m cl)) := by rw [hB, get_push_old (by simp), get_push_eq (by omega)]
  have b4 : B.get (A.n + 1) = some zeroG := by rw [hB, get_push_eq (by simp)]
  unfold boxG zeroG at hB
  simp (disch := as_aux_lemma => first | omega | simp only [hDs] <;> omega | simp [isCell]) [hRs, takeMarks, resA, resAll, resOne, Value.cells, F305, gridV, ← hB, b2, boxG]
  refine w40 (w := w) (h := h) (s := s) (zs := zs) (eB.rdS hsl) hm (by omega) fun A1 e1 => ?_
  have n1 := e1.1
  have c4 := e1.get b4
  have f1 := eB.trans e1
  have zz : ∀ {A' : Hp}, Ext' A A' → A'.get (A.n + 1) = some zeroG → ∀ e, (∀ A'' vg, GAt A'' G0 vg → TgRV A'' w h s m zs st vg e) → V (.tuple ⟨[gridV 0 0 0 (.slice none 0 0), .int .i64 e]⟩) (A'.set (A.n + 1) (some zeroG)) := fun {A'} e' c' e hT => by
    refine hV _ _ _ (e'.trans (set_same c')) (hT _ _ GAt.zero)
  by_cases hE : gridE w h s m zs = 0
  · simp (disch := as_aux_lemma => first | omega | simp only [hDs] <;> omega | simp [isCell]) [hRs, takeMarks, resA, resAll, resOne, Value.cells, hE]
    refine w59 ?_
    by_cases hst : 0 ≤ st ∧ st ≤ 2400000
    · have d2 := e1.get b2
      simp (disch := as_aux_lemma => first | omega | simp only [hDs] <;> omega | simp [isCell]) [hRs, takeMarks, resA, resAll, resOne, Value.cells, hst.1, hst.2, d2, boxG]
      refine w328 (w := w) (h := h) (s := s) (zs := zs) (f1.rdS hsl) (by omega) (by have := f1.1; omega) fun A2 Y c e2 hAY hY => ?_
      have n2 := e2.1
      have hYn := Hp.lt_of_get hY
      have f2 := f1.trans e2
      simp (disch := as_aux_lemma => first | omega | simp only [hDs] <;> omega | simp [isCell]) [hRs, takeMarks, resA, resAll, resOne, Value.cells, gridV, fillA, storeB_cells, setRange_all, set_push_eq]
      obtain ⟨C, hC⟩ : ∃ C, C = A2.push (boxG w h s (.slice (some ⟨Y, 0, some 2⟩) m c)) := ⟨_, rfl⟩
      have eC : Ext' A2 C := by rw [hC]; exact Ext'.push _ _
      have nC : C.n = A2.n + 1 := by rw [hC]; rfl
      have x7 : C.get A2.n = some (boxG w h s (.slice (some ⟨Y, 0, some 2⟩) m c)) := by rw [hC]; exact get_push_new
      unfold boxG at hC
      rw [← hC]
      have f3 := f2.trans eC
      have e3 := (e1.trans e2).trans eC
      have hzl : zs.length = m * 2 := by have := hsl.1; simpa using this
      have hRC : RC g C A.n (A.n + 1) A2.n Y c m w h s st zs (.slice pl m cl) := ⟨hE, hst, e3.get b2, e3.get b4, x7, ⟨by omega, by omega, by omega⟩, by omega, ⟨by omega, by omega⟩, hzl⟩
      have hext : ∀ {A' : Hp}, But Y C A' → Ext' A A' := fun {A'} hb => ⟨by have := hb.1; have := f3.1; omega, fun z hz => by rw [hb.2 z (by have := f3.1; omega) (by have := f1.1; omega), f3.2 z hz]⟩
      refine start305a hRC ?_ ?_ ?_ ?_ (fun T' A' cur hb hY' hS hZ hk => ?_) (fun T' A' hb h4 hbad k4 k5 => ?_) (wid m zs) zs (Nat.le_refl _) ⟨Nat.le_refl _, fun _ _ _ => rfl⟩ (eC.get hY) (RS.start hE hzl) ?_
      · simp
      · simp
      · simp
      · simp
      · have k4 : tget T' 4 = .pointer (some ⟨A.n + 1, 0, none⟩) := (hk 4 (by simp)).trans (by simp)
        have k7 : tget T' 7 = .pointer (some ⟨A2.n, 0, none⟩) := (hk 7 (by simp)).trans (by simp)
        have u7 : A'.get A2.n = some (boxG w h s (.slice (some ⟨Y, 0, some 2⟩) m c)) := by rw [hb.2 _ (by omega) (by omega)]; exact x7
        have u4 : A'.get (A.n + 1) = some zeroG := by rw [hb.2 _ (by omega) (by omega)]; exact e3.get b4
        simp (disch := as_aux_lemma => first | omega | simp only [hDs] <;> omega | simp [isCell]) [hRs, takeMarks, resA, resAll, resOne, Value.cells, k4, k7, u4, u7, boxG, storeB_cells, setRange_all, get_set_same u4]
        have o1 : ∀ (b : Option ABlk) z, z ≠ A.n + 1 → (A'.set (A.n + 1) b).get z = A'.get z := fun b z hz => get_set_ne (Hp.lt_of_get u4) hz
        have hx := hext hb
        refine hV _ _ _ ⟨by have := hx.1; simp; omega, fun z hz => by rw [o1 _ z (by omega), hx.2 z hz]⟩ (.inr (.inr ⟨hE, hst, .inl ⟨cur, hZ, fun j hj => hS.vd j hj, rfl, _, rfl, ?_⟩⟩))
        exact ⟨by rw [ints_length, hS.len], .inr ⟨Y, c, false, rfl, by rw [o1 _ _ (by omega)]; exact hY'⟩⟩
      · simp (disch := as_aux_lemma => first | omega | simp only [hDs] <;> omega | simp [isCell]) [hRs, takeMarks, resA, resAll, resOne, Value.cells, k4, k5, h4]
        exact hV _ _ _ (hext hb) (.inr (.inr ⟨hE, hst, .inr ⟨hbad, rfl, GAt.zero⟩⟩))
      · simp
    · have hst' : (decide (0 ≤ st) && decide (st ≤ 2400000)) = false := by
        simp
        omega
      simp (disch := as_aux_lemma => first | omega | simp only [hDs] <;> omega | simp [isCell]) [hRs, takeMarks, resA, resAll, resOne, Value.cells, hst', c4, storeB_cells, setRange_all, fillA, get_set_same c4]
      exact zz f1 c4 3 fun A'' vg hz => .inr (.inl ⟨hE, hst, rfl, hz⟩)
  · simp (disch := as_aux_lemma => first | omega | simp only [hDs] <;> omega | simp [isCell]) [hRs, takeMarks, resA, resAll, resOne, Value.cells, hE, c4, storeB_cells, setRange_all, fillA, get_set_same c4]
    exact zz f1 c4 _ fun A'' vg hz => .inl ⟨hE, rfl, hz⟩
end
end Go.Ab.Grid
set_option maxRecDepth 100000
namespace Go.Ab.Grid
open Go Go.Ab
theorem TigV.uniq {A A' : Hp} {w h s st : Int} {m : Nat} {zs : List Int} {vg vg' : Value} {e e' : Int} (hm : m < 1000000) (h1 : TigV A w h s m zs st vg e) (h2 : TgRV A' w h s m zs st vg' e') : e = e' ∧ ∃ y : G, y.m < 1000000 ∧ GAt A y vg ∧ GAt A' y vg' := by
  have z : G0.m < 1000000 := by decide
  rcases h1 with ⟨a1, a2, a3⟩ | ⟨a1, a2, a3, a4⟩ | ⟨a1, a2, Z, a3, a4⟩
  · rcases h2 with ⟨_, b2, b3⟩ | ⟨b1, _⟩ | ⟨b1, _⟩
    · exact ⟨by rw [a2, b2], G0, z, a3, b3⟩
    · exact absurd b1 a1
    · exact absurd b1 a1
  · rcases h2 with ⟨b1, _⟩ | ⟨_, _, b3, b4⟩ | ⟨_, b2, _⟩
    · exact absurd a1 b1
    · exact ⟨by rw [a3, b3], G0, z, a4, b4⟩
    · exact absurd b2 a2
  · rcases h2 with ⟨b1, _⟩ | ⟨_, b2, _⟩ | ⟨_, _, b3⟩
    · exact absurd a1 b1
    · exact absurd a2 b2
    · rcases a4 with ⟨c1, c2, c3⟩ | ⟨⟨j, hj, hlt⟩, c2, c3⟩
      · rcases b3 with ⟨Z', d1, d2, d3, d4⟩ | ⟨d1, d2, d3⟩
        · have := TigZ.uniq a1 a2 a3 d1
          subst this
          exact ⟨by rw [c2, d3], _, hm, c3, d4⟩
        · obtain ⟨j, hj, hlt⟩ := d1 Z a3
          have := c1 j hj
          omega
      · rcases b3 with ⟨Z', d1, d2, d3, d4⟩ | ⟨d1, d2, d3⟩
        · have := TigZ.uniq a1 a2 a3 d1
          subst this
          have := d2 j hj
          omega
        · exact ⟨by rw [c2, d2], G0, z, c3, d3⟩
section
variable {g : Nat} {rd : Option Nat} {T : List Value} {D : List Nat} {A : Hp} {Q : Ex → St → Prop} {V : Value → Hp → Prop}
theorem TigV.sl {w h s st : Int} {m : Nat} {zs : List Int} {vg : Value} {e : Int} {y : G} (hy : GAt A y vg) : ∃ p c, vg = gridV y.w y.h y.s (.slice p y.m c) := by
  obtain ⟨sl, rfl, rs⟩ := hy
  obtain ⟨p, c, rfl⟩ := rs.isSlice'
  exact ⟨p, c, rfl⟩
theorem GAt.sl {y : G} {vg : Value} (hy : GAt A y vg) : ∃ p c, vg = gridV y.w y.h y.s (.slice p y.m c) ∧ RdS A 2 y.m (ints y.zs) (.slice p y.m c) := by
  obtain ⟨sl, rfl, rs⟩ := hy
  obtain ⟨p, c, rfl⟩ := rs.isSlice'
  exact ⟨p, c, rfl, rs⟩
theorem law282 {x : G} {vx : Value} {st : Int} (hx : GAt A x vx) (hg : g ≤ A.n) (hV : ∀ A', V (.bool true) A') : WF AP KL g 282 [vx, .int .i64 st] A V := by
  obtain ⟨sx, rfl, rx⟩ := hx
  rw [WF_body (show KL 282 = none from rfl) (show AP 282 = some F282 from rfl)]
  obtain ⟨B, hB⟩ : ∃ B, B = A.push (.cells [.int .i64 x.w, .int .i64 x.h, .int .i64 x.s, sx] false) := ⟨_, rfl⟩
  have eB : Ext' A B := by rw [hB]; exact Ext'.push _ _
  have nB : B.n = A.n + 1 := by rw [hB]; rfl
  have b2 : B.get A.n = some (.cells [.int .i64 x.w, .int .i64 x.h, .int .i64 x.s, sx] false) := by rw [hB]; exact get_push_new
  simp (disch := as_aux_lemma => first | omega | simp only [hDs] <;> omega | simp [isCell]) [hRs, takeMarks, resA, resAll, resOne, Value.cells, F282, gridV, ← hB, b2]
  refine w292 (x := x) ⟨_, rfl, eB.rdS rx⟩ (by omega) fun A1 e1 => ?_
  have n1 := e1.1
  by_cases h60 : (60 : Int) < x.m
  · simp (disch := as_aux_lemma => first | omega | simp only [hDs] <;> omega | simp [isCell]) [hRs, takeMarks, resA, resAll, resOne, Value.cells, h60]
    exact hV _
  · have f1 := eB.trans e1
    simp (disch := as_aux_lemma => first | omega | simp only [hDs] <;> omega | simp [isCell]) [hRs, takeMarks, resA, resAll, resOne, Value.cells, h60, e1.get b2]
    refine w304 (s := x.s) (zs := x.zs) (by omega) (f1.rdS rx) (by omega) fun A2 v1 d1 e2 hv1 => ?_
    have n2 := e2.1
    have f2 := f1.trans e2
    obtain ⟨y1, hy1⟩ : ∃ y : G, GAt A2 y v1 := by
      rcases hv1 with ⟨_, _, h⟩ | ⟨_, _, _, h⟩ | ⟨_, _, _, _, h | h⟩
      · exact ⟨_, h⟩
      · exact ⟨_, h⟩
      · exact ⟨_, h.2.2⟩
      · exact ⟨_, h.2.2⟩
    obtain ⟨p1, c1, hv1e, _⟩ := hy1.sl
    rw [hv1e] at hv1 ⊢
    simp (disch := as_aux_lemma => first | omega | simp only [hDs] <;> omega | simp [isCell]) [hRs, takeMarks, resA, resAll, resOne, Value.cells, gridV, storeB_cells, setRange_all, set_push_eq, fillA, (e1.trans e2).get b2]
    obtain ⟨C, hC⟩ : ∃ C, C = A2.push (.cells [.int .i64 y1.w, .int .i64 y1.h, .int .i64 y1.s, .slice p1 y1.m c1] false) := ⟨_, rfl⟩
    have eC : Ext' A2 C := by rw [hC]; exact Ext'.push _ _
    have nC : C.n = A2.n + 1 := by rw [hC]; rfl
    have c5 : C.get A2.n = some (.cells [.int .i64 y1.w, .int .i64 y1.h, .int .i64 y1.s, .slice p1 y1.m c1] false) := by rw [hC]; exact get_push_new
    rw [← hC]
    have f3 := f2.trans eC
    refine w305 (s := x.s) (zs := x.zs) (by omega) (f3.rdS rx) (by omega) fun A3 v2 d2 e3 hv2 => ?_
    have n3 := e3.1
    obtain ⟨hd, y, hym, g1, g2⟩ := hv1.uniq (by omega) hv2
    subst hd
    obtain ⟨p2, c2, hv2e, r2⟩ := g2.sl
    subst hv2e
    obtain ⟨p1', c1', hv1', r1⟩ := g1.sl
    simp (disch := as_aux_lemma => first | omega | simp only [hDs] <;> omega | simp [isCell]) [hRs, takeMarks, resA, resAll, resOne, Value.cells, gridV, storeB_cells, setRange_all, set_push_eq, fillA, e3.get c5]
    obtain ⟨E, hE⟩ : ∃ E, E = A3.push (.cells [.int .i64 y.w, .int .i64 y.h, .int .i64 y.s, .slice p2 y.m c2] false) := ⟨_, rfl⟩
    have eE : Ext' A3 E := by rw [hE]; exact Ext'.push _ _
    have c7 : E.get A3.n = some (.cells [.int .i64 y.w, .int .i64 y.h, .int .i64 y.s, .slice p2 y.m c2] false) := by rw [hE]; exact get_push_new
    rw [← hE]
    refine w301 (x := y) (y := y) (g1.mono ((eC.trans e3).trans eE)) ⟨_, rfl, eE.rdS r2⟩ hym rfl fun A4 e4 => ?_
    simp (disch := as_aux_lemma => first | omega | simp only [hDs] <;> omega | simp [isCell]) [hRs, takeMarks, resA, resAll, resOne, Value.cells]
    exact hV _
end
end Go.Ab.Grid
set_option maxRecDepth 100000
namespace Go.Ab.Grid
open Go Go.Ab
end Go.Ab.Grid
set_option maxRecDepth 100000
namespace Go.Ab.Grid
open Go Go.Ab Go.Proofs Go.Shelf Go.ChangeShapes Go.WideShapes Go.ChangeAt Go.RowKit Go.Proofs.YtmppgcknmmmioaaGreatDoor
theorem isFn' (f nt : Nat) (rs : List ARes) (c : ACode) {W0 : Array Obj} (h : AP f = some (.fn nt rs c)) : ∃ nt rs body, (E W0).AP f = some (.fn nt rs body) := ⟨nt, rs, c, h⟩
theorem own : ownKnob Tryz.prog.godebug = none := by kernel_rfl
theorem laidOut : laidOutB Tryz.prog = true := by kernel_rfl
abbrev laidL : List (String × DataW Unit) := Rows.gridNearsRow.laid
theorem white {w : World} : Lib.VarReads Tryz.prog w "unicode.White_Space" Lib.whiteData → Lib.WhiteTab 1 w := fun h =>
  whiteTab_of_reads (ρ := Tryz.lays157_ren) { Tryz.lays157 with } { n6 := by kernel_rfl, y6 := by kernel_rfl, c3 := by kernel_rfl, c49 := by kernel_rfl, c193 := by kernel_rfl, c194 := by kernel_rfl, c196 := by kernel_rfl, c198 := by kernel_rfl } h
theorem var_heap {w : World} {n : String} {g : Nat} {cs : Array Value} (hg : Tryz.prog.globalNamed n = some g) (h : w.var? Tryz.prog n = some cs) : ∃ t fr, w.heap[g]? = some (.cells cs t fr) := by
  unfold World.var? at h
  rw [hg] at h
  simp only [Option.bind_some] at h
  split at h
  · rename_i cs' t fr he; cases h; exact ⟨t, fr, he⟩
  · cases h
theorem laidW_of {w : World} (hm : laidMet Tryz.prog laidL w) (hs : w.ShapedOpen Tryz.prog) : LaidW w := by
  have hp := Lib.laidMet.reads hm (d := Rows.laid_internal_strconv_uint64pow10) (List.mem_cons_of_mem _ (List.mem_cons_of_mem _ List.mem_cons_self))
  have hr := Lib.laidMet.reads hm (d := Rows.laid_strconv_ErrRange) (List.mem_cons_of_mem _ (List.mem_cons_of_mem _ (List.mem_cons_of_mem _ List.mem_cons_self)))
  have hy := Lib.laidMet.reads hm (d := Rows.laid_strconv_ErrSyntax) (List.mem_cons_of_mem _ (List.mem_cons_of_mem _ (List.mem_cons_of_mem _ (List.mem_cons_of_mem _ List.mem_cons_self))))
  have hw := Lib.laidMet.reads hm (d := Rows.laid_unicode_White_Space) (List.mem_cons_of_mem _ (List.mem_cons_of_mem _ (List.mem_cons_of_mem _ (List.mem_cons_of_mem _ (List.mem_cons_of_mem _ List.mem_cons_self)))))
  have ha := Lib.laidMet.reads hm (d := Rows.laid_strings_asciiSpace) (List.mem_cons_of_mem _ (List.mem_cons_of_mem _ (List.mem_cons_of_mem _ (List.mem_cons_of_mem _ (List.mem_cons_of_mem _ (List.mem_cons_of_mem _ List.mem_cons_self))))))
  have iface : ∀ {n : String} {nm : String} {d : DataW Unit} {g : Nat} {t : TypeId} {ms : Array (String × TypeId)}, Tryz.prog.globalNamed n = some g → (Tryz.prog.globals[g]?).map (·.type) = some t → Tryz.prog.underlying t = some (.interface ms) →
      Lib.VarReads Tryz.prog w n (.iface nm d) → ∃ ev, w.cell? ⟨g, 0, none⟩ = some ev ∧ (ev = .nilIface ∨ ∃ te pe, ev = .iface te pe) := by
    intro n nm d g t ms hg ht hu h
    obtain ⟨g', t', cs, fuel, p, hg', ht', hv, hd⟩ := h
    obtain rfl := Option.some.inj (hg.symm.trans hg')
    obtain rfl := Option.some.inj (ht.symm.trans ht')
    obtain ⟨_, u, v, hcs, _, _⟩ := iface_of_trod hu hd
    have := World.var?_cell hg hv 0
    rw [← Array.getElem?_toList, hcs] at this
    exact ⟨_, this, .inr ⟨u, v, rfl⟩⟩
  have tab : ∀ {n : String} {k : IntKind} {zs : List Int} {g : Nat} {t e : TypeId} {N : Nat}, Tryz.prog.globalNamed n = some g → (Tryz.prog.globals[g]?).map (·.type) = some t → Tryz.prog.underlying t = some (.array N e) →
      Tryz.prog.underlying e = some (.int k) → Tryz.prog.cellsOf e = 1 → Tryz.prog.cellsOf t = N → Lib.VarReads Tryz.prog w n (Lib.tabData k zs) → ∃ t fr, w.heap[g]? = some (.cells (zs.map fun z => Value.int k z).toArray t fr) := by
    intro n k zs g t e N hg ht hu he hce hct h
    obtain ⟨g', t', cs, fuel, p, hg', ht', hv, hd⟩ := h
    obtain rfl := Option.some.inj (hg.symm.trans hg')
    obtain rfl := Option.some.inj (ht.symm.trans ht')
    have hcs := Lib.cells_of_tab hu he hce hct hd
    obtain ⟨t, fr, h⟩ := var_heap hg hv
    exact ⟨t, fr, by rw [h, ← hcs]⟩
  refine ⟨?_, ?_, ?_, ?_, ?_, white hw⟩
  · exact cell_of_shapedOpen_int (zero := #[.int .i64 0]) (t := 3) hs (of_decide_eq_true (by kernel_rfl)) (by kernel_rfl) rfl (by kernel_rfl) (by kernel_rfl) Tryz.underlying3
  · exact iface (by kernel_rfl) (by kernel_rfl) Tryz.underlying122 hy
  · exact iface (by kernel_rfl) (by kernel_rfl) Tryz.underlying122 hr
  · exact tab (by kernel_rfl) (by kernel_rfl) Tryz.underlying207 (by kernel_rfl) (by kernel_rfl) (by kernel_rfl) ((show Rows.laid_internal_strconv_uint64pow10 = Lib.tabData .u64 Lib.pow10Tab by kernel_rfl) ▸ hp)
  · exact tab (by kernel_rfl) (by kernel_rfl) Tryz.underlying153 (by kernel_rfl) (by kernel_rfl) (by kernel_rfl) ((show Rows.laid_strings_asciiSpace = Lib.tabData .u8 Lib.asciiSpaceTab by kernel_rfl) ▸ ha)
section
variable {H : Type} {enc : TypeId × Value → H} {os : Os}
theorem laid_all (args : Array Value) : laidMetH Tryz.prog laidL ((World.laidAll Tryz.prog os laidL).forCall (fun _ _ => 0) ⟨#[], args, []⟩).memory := by
  rw [MakeChecks.laidMetH_plain _ _ _ (by kernel_rfl)]
  exact laidMet_laidAll _ (by kernel_rfl) (by kernel_rfl)
theorem laid_shaped (args : Array Value) : ((World.laidAll Tryz.prog os laidL).forCall (fun _ _ => 0) ⟨#[], args, []⟩).Shaped Tryz.prog := World.shaped_of_ZipB (by kernel_rfl) (by kernel_rfl)
theorem returns_laid {f : FuncId} {fn : Func} {s : ChangeSpec} (started : os.Started) (noInit : Tryz.checked.prog.inits.idxOf? f = none) (hfn : Tryz.checked.prog.funcs[f]? = some fn) (args0 : Array Value)
    (hok : Input.okWideB Tryz.checked.prog ((World.laidAll Tryz.prog os laidL).forCall (fun _ _ => 0) ⟨#[], args0, []⟩) f ⟨#[], args0, []⟩ = true)
    (hpre : s.preB enc Tryz.checked.prog fn [] false ((World.laidAll Tryz.prog os laidL).forCall (fun _ _ => 0) ⟨#[], args0, []⟩).memory args0 8 = true)
    (hsz : s.sizedB enc Tryz.checked.prog fn false ((World.laidAll Tryz.prog os laidL).forCall (fun _ _ => 0) ⟨#[], args0, []⟩).memory args0 8 = true)
    (contract : ∀ (W : World) (base : Nat) (args : Array Value) (ds gs : List (DataW H)) (before : List MemPlace),
      (∀ (j : Nat) t v, fn.params[j]? = some t → args[j]? = some v → Value.okWide Tryz.prog W .any base t v) →
      DataW.Whole enc Tryz.prog fn.params.toList s.vars false W args.toList ds gs before → LaidW W →
      Calls Tryz.prog f args W fun e W' => ∃ v, e = .returned v ∧ s.post enc Tryz.prog fn false true false false W args v W') :
    ReturnsInHanded {} Tryz.checked os f .any (fun w args => (s.pre enc Tryz.checked.prog fn [] false w args ∧ laidMetH Tryz.checked.prog laidL w) ∧ sizedMet enc Tryz.checked.prog fn (OpenSpec.ofChange s) false w args)
      (s.post enc Tryz.checked.prog fn false true false false) := by
  refine returnsInHanded_of_calls (C := Tryz.checked) own started noInit
    (ChangeSpec.witness_shaped (enc := enc) (C := Tryz.checked) (os := os) (s := s) (X := fun w _ => laidMetH Tryz.prog laidL w) false (World.laidAll Tryz.prog os laidL) args0 8 (World.laidAll_os _ _ _) (laid_shaped args0) hok hpre hsz (laid_all args0)) ?_
  intro w tape i _ hsh _ hok hpre _
  obtain ⟨_, _, _, fn', hfn', _, _, _, _, hval⟩ := hok
  have e : fn' = fn := Option.some.inj (hfn'.symm.trans hfn)
  subst e
  obtain ⟨⟨⟨ds, gs, before, hw, _⟩, hx⟩, _⟩ := hpre
  have hw' := DataW.Whole.of_heap (w' := w.forCall tape i) (by rfl) hw
  have hx' : laidMet Tryz.prog laidL (w.forCall tape i) := by
    have hx1 : laidMetH Tryz.prog laidL (w.forCall tape i).memory := hx
    rw [MakeChecks.laidMetH_plain _ _ _ (by kernel_rfl)] at hx1
    exact hx1.of_heap (by rfl)
  refine (contract (w.forCall tape i) w.heap.size i.args ds gs before hval hw' (laidW_of hx' hsh)).mono fun e W' ⟨v, he, hp⟩ => ?_
  subst he
  exact ChangeSpec.post_blind hp
end
end Go.Ab.Grid
set_option maxRecDepth 100000
namespace Go.Ab.Grid
open Go Go.Ab
def tGrid : Ty := .pair (.int .i64) (.pair (.int .i64) (.pair (.int .i64) (.pair (.slice (.rep 2 (.int .i64))) .unit)))
theorem sh_grid {rows : List (List Value)} {cs : List Value} (h : Sh rows tGrid cs) :
    ∃ (w h s : Int) (m : Nat) (zs : List Int) (sl : Value), mkV tGrid cs = gridV w h s sl ∧ RdS (roHp rows) 2 m (ints zs) sl ∧ m ≤ maxLen ∧ (∀ z ∈ zs, -9223372036854775808 ≤ z ∧ z ≤ 9223372036854775807) := by
  obtain ⟨_, _, rfl, h1, ⟨_, _, rfl, h2, ⟨_, _, rfl, h3, ⟨_, _, rfl, h4, rfl⟩⟩⟩⟩ := h
  obtain ⟨a1, rfl, b1⟩ := sh_int h1
  obtain ⟨a2, rfl, b2⟩ := sh_int h2
  obtain ⟨a3, rfl, b3⟩ := sh_int h3
  obtain ⟨n, zs, sl, rfl, r, m, b⟩ := sh_slice_k (k := .i64) rfl h4
  exact ⟨a1, a2, a3, n, zs, sl, rfl, r, m, b⟩
end Go.Ab.Grid
