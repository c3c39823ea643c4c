/- A grid among a law's arguments. -/
import Derived.Test.YtmppgcknmmmioaaGreatDoorZ16
import Derived.Test.YtmppgcknmmmioaaGreatDoorZ13
import Derived.Test.YtmppgcknmmmioaaGreatDoorZ09
import Derived.Test.YtmppgcknmmmioaaGreatDoorTie
import Derived.Lib.LaidU8
import Derived.Shelf.Vars
import Derived.Lay
import Derived.Handed
import Derived.MakeChecks
import Derived.Test.YtmppgcknmmmioaaGreatDoorZ14
set_option linter.unusedSimpArgs false
set_option linter.unusedVariables false
set_option linter.unusedSectionVars false
set_option maxRecDepth 100000
namespace Go.Ab.Grid
open Go Go.Ab
def headS : List (List UInt8) → Option (Int × Int × Int)
  | [w0, w1, w2, w3] => if w0 = [103, 114, 105, 100] ∧ (numF 24 w1).2 = true ∧ (numF 24 w2).2 = true ∧ (numF 10000 w3).2 = true then some ((numF 24 w1).1, (numF 24 w2).1, (numF 10000 w3).1) else none
  | _ => none
def parseS (l : List UInt8) : Option PSt := (headS (splitL 32 [] ((splitL 10 [] l).headD []))).bind fun q => (rowsF (splitL 10 [] l).tail []).map fun zs => ⟨q.1, q.2.1, q.2.2, zs⟩
def RdW (A : Hp) (l : List UInt8) (vg : Value) (e : Int) : Prop :=
  (65536 < l.length ∧ e = 8 ∧ GAt A G0 vg) ∨ (l.length ≤ 65536 ∧ ((∃ st, parseS l = some st ∧ st.E = 0 ∧ st.text = l ∧ e = 0 ∧ st.zs.length < 1000000 ∧ GAt A st.G vg) ∨ ((∀ st, parseS l = some st → st.E = 0 → st.text ≠ l) ∧ e = 7 ∧ GAt A G0 vg)))
theorem headS_some {H : List (List UInt8)} (h : H.length = 4) : ∃ a b c d, H = [a, b, c, d] := by
  rcases H with _ | ⟨a, _ | ⟨b, _ | ⟨c, _ | ⟨d, _ | ⟨e, l⟩⟩⟩⟩⟩ <;> simp at h
  exact ⟨_, _, _, _, rfl⟩
theorem headS_none {H : List (List UInt8)} (h : H.length ≠ 4) : headS H = none := by
  unfold headS
  split
  · simp at h
  · rfl
section
variable {g : Nat} {rd : Option Nat} {T : List Value} {D : List Nat} {A : Hp} {Q : Ex → St → Prop} {V : Value → Hp → Prop}
theorem w309 {l : List UInt8} (hl : l.length ≤ 900000) (hg : g ≤ A.n) (hV : ∀ A' vg e, Ext' A A' → RdW A' l vg e → V (.tuple ⟨[vg, .int .i64 e]⟩) A') : WF AP KL g 309 [strV l] A V := by
  rw [WF_body (show KL 309 = none from rfl) (show AP 309 = some F309 from rfl)]
  have hsz : (⟨⟨l⟩⟩ : ByteArray).size = l.length := rfl
  obtain ⟨B, hB⟩ : ∃ B, B = A.push zeroG := ⟨_, rfl⟩
  have eB : Ext' A B := by rw [hB]; exact Ext'.push _ _
  have nB : B.n = A.n + 1 := by rw [hB]; rfl
  have b2 : B.get A.n = some zeroG := by rw [hB]; exact get_push_new
  have hfin : ∀ {A' : Hp}, Ext' B A' → ∀ c, Ext' A (A'.set A.n c) := fun {A'} e c => ⟨by have := e.1; simp; omega, fun z hz => by rw [get_set_ne (by have := e.1; omega) (by omega), e.2 z (by omega), eB.2 z hz]⟩
  by_cases hlong : 65536 < l.length
  · have := hV _ _ 8 (hfin ⟨Nat.le_refl _, fun _ _ => rfl⟩ (some zeroG)) (.inl ⟨hlong, rfl, GAt.zero⟩)
    have z2 := get_set_same (b := zeroG) b2
    unfold zeroG at hB b2 this z2
    simp (disch := as_aux_lemma => first | omega | simp only [hDs] <;> omega | simp [isCell]) [hRs, takeMarks, resA, resAll, resOne, Value.cells, F309, lenTV, goInt, hsz, show (65536 : Int) < (l.length : Int) by omega, hlong, ← hB, fillA, storeB_cells, setRange_all, b2, z2]
    exact this
  · obtain ⟨Ls, hLs⟩ : ∃ Ls, Ls = splitL 10 [] l := ⟨_, rfl⟩
    have hLl := splitL_len (c := 10) (l := l) (cur := [])
    have hLw := splitL_wt (c := 10) (l := l) (cur := [])
    have hLm : ∀ w, w ∈ Ls → w.length ≤ 100000 := fun w hw => by rw [hLs] at hw; have := splitL_mem hw; simp at this; omega
    have hbad : ∀ {A' : Hp}, Ext' B A' → (∀ st, parseS l = some st → st.E = 0 → st.text ≠ l) → V (.tuple ⟨[gridV 0 0 0 (.slice none 0 0), .int .i64 7]⟩) (A'.set A.n (some zeroG)) := fun e hp =>
      hV _ _ 7 (hfin e _) (.inr ⟨by omega, .inr ⟨hp, rfl, GAt.zero⟩⟩)
    have hB' := hB
    unfold zeroG at hB'
    simp (disch := as_aux_lemma => first | omega | simp only [hDs] <;> omega | simp [isCell]) [hRs, takeMarks, resA, resAll, resOne, Value.cells, F309, lenTV, goInt, hsz, show ¬ (65536 : Int) < (l.length : Int) by omega, hlong, ← hB']
    refine w346 (c := 10) (l := l) (by omega) (by omega) fun A1 sp e1 rsp hsp => ?_
    rw [← hLs] at rsp hLl hLw
    have n1 := e1.1
    obtain ⟨F, cL, ro, rfl, hF⟩ := rsp.at hLl.1
    have hFB := hsp F rfl
    obtain ⟨L0, hL0⟩ : ∃ L0, L0 = Ls.headD [] := ⟨_, rfl⟩
    obtain ⟨Lt, hLt⟩ : ∃ Lt, Ls = L0 :: Lt := by
      rcases Ls with _ | ⟨x, y⟩
      · simp at hLl
      · exact ⟨y, by rw [hL0]; rfl⟩
    have hcell : cellAt (Ls.map strV) 0 = some (strV L0) := by rw [hLt]; rfl
    have hL0l := hLm L0 (by rw [hLt]; simp)
    have hpar : parseS l = (headS (splitL 32 [] L0)).bind fun q => (rowsF Lt []).map fun zs => ⟨q.1, q.2.1, q.2.2, zs⟩ := by
      unfold parseS
      rw [← hLs, ← hL0, hLt]
      rfl
    simp (disch := as_aux_lemma => first | omega | simp only [hDs] <;> omega | simp [isCell]) [hRs, takeMarks, resA, resAll, resOne, Value.cells, show (0 : Int) < Ls.length by omega, hLl.1, idxSA_ok, hF, hcell]
    refine w346 (c := 32) (l := L0) (by omega) (by omega) fun A2 sh e2 rsh hsh => ?_
    have n2 := e2.1
    have hHl := splitL_len (c := 32) (l := L0) (cur := [])
    obtain ⟨Fh, cH, rh, rfl, hH⟩ := rsh.at hHl.1
    have f2 := e1.trans e2
    have u2 := f2.get b2
    have z2 := get_set_same (b := zeroG) u2
    by_cases h4 : (splitL 32 [] L0).length = 4
    · obtain ⟨a0, a1, a2, a3, hH4⟩ := headS_some h4
      rw [hH4] at hpar hH ⊢
      have m0 : cellAt ([a0, a1, a2, a3].map strV) 0 = some (strV a0) := rfl
      have m1 : cellAt ([a0, a1, a2, a3].map strV) 1 = some (strV a1) := rfl
      have m2 : cellAt ([a0, a1, a2, a3].map strV) 2 = some (strV a2) := rfl
      have m3 : cellAt ([a0, a1, a2, a3].map strV) 3 = some (strV a3) := rfl
      by_cases hgr : a0 = [103, 114, 105, 100]
      · subst hgr
        simp (disch := as_aux_lemma => first | omega | simp only [hDs] <;> omega | simp [isCell]) [hRs, takeMarks, resA, resAll, resOne, Value.cells, idxSA_ok, hH, m0, m1, strNeq]
        refine w347 (most := 24) (by omega) ?_
        simp (disch := as_aux_lemma => first | omega | simp only [hDs] <;> omega | simp [isCell]) [hRs, takeMarks, resA, resAll, resOne, Value.cells, idxSA_ok, hH, m2]
        refine w347 (most := 24) (by omega) ?_
        simp (disch := as_aux_lemma => first | omega | simp only [hDs] <;> omega | simp [isCell]) [hRs, takeMarks, resA, resAll, resOne, Value.cells, idxSA_ok, hH, m3]
        refine w347 (most := 10000) (by omega) ?_
        obtain ⟨w, hw⟩ : ∃ w, w = (numF 24 a1).1 := ⟨_, rfl⟩
        obtain ⟨h, hh⟩ : ∃ h, h = (numF 24 a2).1 := ⟨_, rfl⟩
        obtain ⟨s, hs⟩ : ∃ s, s = (numF 10000 a3).1 := ⟨_, rfl⟩
        obtain ⟨b1, hb1⟩ : ∃ b, b = (numF 24 a1).2 := ⟨_, rfl⟩
        obtain ⟨b2', hb2⟩ : ∃ b, b = (numF 24 a2).2 := ⟨_, rfl⟩
        obtain ⟨b3, hb3⟩ : ∃ b, b = (numF 10000 a3).2 := ⟨_, rfl⟩
        have hhd : headS [[103, 114, 105, 100], a1, a2, a3] = if b1 = true ∧ b2' = true ∧ b3 = true then some (w, h, s) else none := by
          rw [headS, hb1, hb2, hb3, hw, hh, hs]
          simp
        rw [hhd] at hpar
        by_cases hall : b1 = true ∧ b2' = true ∧ b3 = true
        · rw [if_pos hall] at hpar
          obtain ⟨r1, r2, r3⟩ := hall
          rw [r1] at hb1
          rw [r2] at hb2
          rw [r3] at hb3
          have hpar' : parseS l = (rowsF Lt []).map fun zs => ⟨w, h, s, zs⟩ := hpar
          obtain ⟨C, hC⟩ : ∃ C, C = A2.push (.cells [.int .i64 w, .int .i64 h, .int .i64 s, .slice none 0 0] false) := ⟨_, rfl⟩
          have eC : Ext' A2 C := by rw [hC]; exact Ext'.push _ _
          have nC : C.n = A2.n + 1 := by rw [hC]; rfl
          have c12 : C.get A2.n = some (.cells [.int .i64 w, .int .i64 h, .int .i64 s, .slice none 0 0] false) := by rw [hC]; exact get_push_new
          have c2 := eC.get u2
          have f3 := f2.trans eC
          have hF1 := Hp.lt_of_get hF
          simp (disch := as_aux_lemma => first | omega | simp only [hDs] <;> omega | simp [isCell]) [hRs, takeMarks, resA, resAll, resOne, Value.cells, ← hw, ← hh, ← hs, ← hb1, ← hb2, ← hb3, fillA, setRange, storeB_cells, setRange_all, set_push_eq, ← hC]
          refine out309 (M := C.n) (X2 := A.n) (X12 := A2.n) (F := F) (cL := cL) (C0 := C) (Ls := Ls) (R := rowsF Lt []) (w := w) (h := h) (s := s) ⟨by omega, by omega, by omega⟩ ⟨by omega, by omega, by omega⟩ rfl c2 ((e2.trans eC).get hF) (by omega) hLm (by omega) (fun T' A3 zs hz hA3 hzl hk => ?_) (fun T' A3 hz hb' t2 t3 => ?_) ?_ ?_ ?_ Lt.length 1 [] (by rw [hLt]; simp; omega) ⟨fun _ _ _ _ => rfl, Nat.le_refl _, ⟨_, c12, AccS.nil, fun z hz => by cases hz⟩, rfl⟩ (by rw [hLt]; rfl) ?_ (fun _ _ => rfl) ?_
          · rw [hz] at hpar'
            have hpar2 : parseS l = some ⟨w, h, s, zs⟩ := hpar'
            obtain ⟨sv, y1, y2, y3⟩ := hA3.x4
            simp only at y1 y2
            obtain ⟨p, n, c, rfl⟩ := y2.isSlice
            have hev : zs.length % 2 = 0 := hA3.ev
            have hn3 := hA3.n
            have rZ : RdS A3 2 (zs.length / 2) (ints zs) (.slice p n c) := y2.rd (by rw [ints_length]; omega) (by decide)
            have f4 : Ext' B A3 := ⟨by omega, fun z hz => by rw [hA3.fr z (by omega) (by omega) (by simp), f3.2 z hz]⟩
            have t0 := hk 0 (by simp)
            have t2 := hk 2 (by simp)
            have t12 := hk 12 (by simp)
            simp at t0 t2 t12
            simp (disch := as_aux_lemma => first | omega | simp only [hDs] <;> omega | simp [isCell]) [hRs, takeMarks, resA, resAll, resOne, Value.cells, t12, y1]
            refine w307 (w := w) (h := h) (s := s) (m := zs.length / 2) (zs := zs) (by omega) rZ (by omega) fun A4 t e e4 hW => ?_
            have n4 := e4.1
            have v2 := (f4.trans e4).get b2
            have v12 := e4.get y1
            have z4 := get_set_same (b := zeroG) v2
            have hbd : ((PSt.E ⟨w, h, s, zs⟩ = 0) → PSt.text ⟨w, h, s, zs⟩ ≠ l) → V (.tuple ⟨[gridV 0 0 0 (.slice none 0 0), .int .i64 7]⟩) (A4.set A.n (some zeroG)) := fun hh => hbad (f4.trans e4) fun st hst => by
              rw [hpar2] at hst
              obtain rfl := Option.some.inj hst
              exact hh
            unfold zeroG at v2 z4 hbd
            rcases hW with ⟨h1, rfl, h3⟩ | ⟨h1, rfl, rfl⟩
            · have h1' : ¬ e = 0 := by rw [h3]; exact h1
              simp (disch := as_aux_lemma => first | omega | simp only [hDs] <;> omega | simp [isCell]) [hRs, takeMarks, resA, resAll, resOne, Value.cells, h1', t2, v2, z4, storeB_cells, setRange_all, fillA]
              exact hbd fun hh => absurd hh h1
            · by_cases htl : textL w h s zs = l
              · have hpn : n = zs.length / 2 := by
                  obtain ⟨_, ⟨h, h0⟩ | ⟨_, _, _, h, _⟩⟩ := rZ
                  · cases h; omega
                  · cases h; rfl
                subst hpn
                have z5 := get_set_same (b := some (.cells [.int .i64 w, .int .i64 h, .int .i64 s, .slice p (zs.length / 2) c] false)) v2
                have hgood := hV (A4.set A.n (some (.cells [.int .i64 w, .int .i64 h, .int .i64 s, .slice p (zs.length / 2) c] false))) (gridV w h s (.slice p (zs.length / 2) c)) 0 (hfin (f4.trans e4) _) (.inr ⟨by omega, .inl ⟨⟨w, h, s, zs⟩, hpar2, h1, htl, rfl, by show zs.length < 1000000; omega, _, rfl, (e4.rdS rZ).keepB fun z hz => get_set_ne (by omega) (by have := (y2.blk_ge hz).1; omega)⟩⟩)
                simp (disch := as_aux_lemma => first | omega | simp only [hDs] <;> omega | simp [isCell]) [hRs, takeMarks, resA, resAll, resOne, Value.cells, strNeq, t0, t2, t12, htl, v2, v12, z5, storeB_cells, setRange_all]
                exact hgood
              · simp (disch := as_aux_lemma => first | omega | simp only [hDs] <;> omega | simp [isCell]) [hRs, takeMarks, resA, resAll, resOne, Value.cells, strNeq, t0, t2, decide_eq_false htl, v2, z4, storeB_cells, setRange_all, fillA]
                exact hbd fun _ => htl
          · rw [hz] at hpar'
            obtain ⟨p1, p2, p3⟩ := hb'
            have hext : Ext' A A3 := ⟨by omega, fun z hz => by rw [p3 z (by omega) (by omega) (by simp), f3.2 z (by omega), eB.2 z hz]⟩
            have hb := hV A3 _ 7 hext (.inr ⟨by omega, .inr ⟨(fun st hst => by rw [hpar'] at hst; cases hst), rfl, GAt.zero⟩⟩)
            unfold zeroG at p2
            simp (disch := as_aux_lemma => first | omega | simp only [hDs] <;> omega | simp [isCell]) [hRs, takeMarks, resA, resAll, resOne, Value.cells, t2, t3, p2]
            exact hb
          · simp
          · simp
          · simp
          · rw [hLt] at hLw ⊢
            rw [wt] at hLw
            simp at hLw ⊢
            omega
          · simp
        · rw [if_neg hall] at hpar
          have hb := hbad f2 fun st hst => by rw [hpar] at hst; cases hst
          unfold zeroG at u2 z2 hb
          cases r1 : b1
          · rw [r1] at hb1
            simp (disch := as_aux_lemma => first | omega | simp only [hDs] <;> omega | simp [isCell]) [hRs, takeMarks, resA, resAll, resOne, Value.cells, ← hw, ← hh, ← hs, ← hb1, ← hb2, ← hb3, fillA, storeB_cells, setRange_all, u2, z2]
            exact hb
          · rw [r1] at hb1
            cases r2 : b2'
            · rw [r2] at hb2
              simp (disch := as_aux_lemma => first | omega | simp only [hDs] <;> omega | simp [isCell]) [hRs, takeMarks, resA, resAll, resOne, Value.cells, ← hw, ← hh, ← hs, ← hb1, ← hb2, ← hb3, fillA, storeB_cells, setRange_all, u2, z2]
              exact hb
            · rw [r2] at hb2
              cases r3 : b3
              · rw [r3] at hb3
                simp (disch := as_aux_lemma => first | omega | simp only [hDs] <;> omega | simp [isCell]) [hRs, takeMarks, resA, resAll, resOne, Value.cells, ← hw, ← hh, ← hs, ← hb1, ← hb2, ← hb3, fillA, storeB_cells, setRange_all, u2, z2]
                exact hb
              · exact absurd ⟨r1, r2, r3⟩ hall
      · have hb := hbad f2 fun st hst => by
          rw [hpar] at hst
          simp [headS, hgr] at hst
        unfold zeroG at u2 z2 hb
        simp (disch := as_aux_lemma => first | omega | simp only [hDs] <;> omega | simp [isCell]) [hRs, takeMarks, resA, resAll, resOne, Value.cells, idxSA_ok, hH, m0, strNeq, decide_eq_false hgr, fillA, storeB_cells, setRange_all, u2, z2]
        exact hb
    · have hb := hbad f2 fun st hst => by
        rw [hpar, headS_none h4] at hst
        cases hst
      unfold zeroG at u2 z2 hb
      simp (disch := as_aux_lemma => first | omega | simp only [hDs] <;> omega | simp [isCell]) [hRs, takeMarks, resA, resAll, resOne, Value.cells, show ¬ ((splitL 32 [] L0).length : Int) = 4 by omega, h4, fillA, storeB_cells, setRange_all, u2, z2]
      exact hb
end
end Go.Ab.Grid
set_option maxRecDepth 100000
namespace Go.Ab.Grid
open Go Go.Ab
theorem digF_dec : ∀ (u : Nat) (r : List UInt8), digF 0 (Lib.decDigits u ++ r) = digF u r := by
  intro u
  induction u using Nat.strongRecOn with
  | _ u ih =>
    intro r
    rw [Lib.decDigits]
    split
    · rename_i h
      simp only [List.singleton_append, digF]
      rw [ofNat_dig h, if_neg (by omega)]
      congr 1
      omega
    · rename_i h
      rw [List.append_assoc, ih (u / 10) (by omega)]
      simp only [List.singleton_append, digF]
      rw [ofNat_dig (by omega), if_neg (by omega)]
      congr 1
      omega
theorem dig_dec (u : Nat) : digF 0 (Lib.decDigits u) = some u := by
  have := digF_dec u []
  rw [List.append_nil] at this
  rw [this]
  rfl
theorem negB_dec (u : Nat) : negB (Lib.decDigits u) = false := by
  have hd := fun b => dec_dig u (b := b)
  rcases h : Lib.decDigits u with _ | ⟨x, _ | ⟨y, l⟩⟩
  · rfl
  · rfl
  · have := hd x (by rw [h]; simp)
    have hx : x ≠ 45 := fun hx => by subst hx; exact absurd this.1 (by decide)
    simp [negB, hx]
theorem negB_neg (u : Nat) : negB (45 :: Lib.decDigits u) = true := by
  rcases h : Lib.decDigits u with _ | ⟨y, l⟩
  · exact absurd h (dec_ne u)
  · rfl
theorem numF_itoa {n most : Int} (hm : most ≤ 1200000) (h : -most ≤ n ∧ n ≤ most) : numF most (itoaA n) = (n, true) := by
  have e : itoaA n = if n < 0 then 45 :: Lib.decDigits n.natAbs else Lib.decDigits n.toNat := by
    rw [itoaA_eq (by omega) (by omega)]
    unfold Lib.itoa
    rfl
  unfold numF
  by_cases hn : n < 0
  · rw [if_pos hn] at e
    have hl := decN_len n.natAbs (by omega)
    have hs : ∀ v, sgnF (itoaA n) v = -(v : Int) := fun v => by rw [e, sgnF, negB_neg]; rfl
    have hd : dsF (itoaA n) = Lib.decDigits n.natAbs := by rw [e, dsF, negB_neg]; rfl
    rw [if_neg (by rw [e]; simp; omega), hd, dig_dec]
    simp only
    rw [hs, show -((n.natAbs : Nat) : Int) = n by omega, decide_eq_true h.1, decide_eq_true h.2]
    simp
  · rw [if_neg hn] at e
    have hl := decN_len n.toNat (by omega)
    have hs : ∀ v, sgnF (itoaA n) v = (v : Int) := fun v => by rw [e, sgnF, negB_dec]; rfl
    have hd : dsF (itoaA n) = Lib.decDigits n.toNat := by rw [e, dsF, negB_dec]; rfl
    rw [if_neg (by rw [e]; omega), hd, dig_dec]
    simp only
    rw [hs, show ((n.toNat : Nat) : Int) = n by omega, decide_eq_true h.1, decide_eq_true h.2]
    simp
theorem dotF_none : ∀ {l pre : List UInt8}, (46 : UInt8) ∉ l → dotF pre l = none
  | [], _, _ => rfl
  | [x], _, _ => rfl
  | x :: y :: l, pre, h => by
    rw [dotF, if_neg (fun e => h (by injection e with e1; rw [e1]; simp))]
    exact dotF_none (fun hm => h (List.mem_cons_of_mem _ hm))
theorem dotF_two : ∀ {l pre r : List UInt8}, (46 : UInt8) ∉ l → dotF pre (l ++ 46 :: 46 :: r) = some (pre ++ l, r)
  | [], pre, r, _ => by simp [dotF]
  | [x], pre, r, h => by
    rw [List.singleton_append, dotF, if_neg (fun e => h (by injection e with e1; rw [e1]; simp))]
    simp [dotF]
  | x :: y :: l, pre, r, h => by
    rw [List.cons_append, List.cons_append, dotF, if_neg (fun e => h (by injection e with e1; rw [e1]; simp))]
    have := dotF_two (l := y :: l) (pre := pre ++ [x]) (r := r) (fun hm => h (List.mem_cons_of_mem _ hm))
    rw [List.cons_append] at this
    rw [this]
    simp
theorem spanF_word {a b : Int} (ha : -1200000 ≤ a ∧ a ≤ 1200000) (hb : -1200000 ≤ b ∧ b ≤ 1200000) : spanF (wordL a b) = (a, b, true) := by
  unfold spanF wordL
  by_cases h : a = b
  · rw [if_pos h, dotF_none (no_dot ha), numF_itoa (by omega) ha, h]
  · rw [if_neg h, show itoaA a ++ [46, 46] ++ itoaA b = itoaA a ++ 46 :: 46 :: itoaA b by simp, dotF_two (no_dot ha)]
    simp only [List.nil_append]
    rw [numF_itoa (by omega) ha, numF_itoa (by omega) hb]
    rfl
theorem splitL_app {c : UInt8} : ∀ {w cur r : List UInt8}, c ∉ w → splitL c cur (w ++ r) = splitL c (cur ++ w) r
  | [], cur, r, _ => by simp
  | x :: w, cur, r, h => by
    rw [List.cons_append, splitL, if_neg (fun e => h (by rw [e]; simp)), splitL_app (fun hm => h (List.mem_cons_of_mem _ hm))]
    simp
theorem splitL_at {c : UInt8} {w cur r : List UInt8} (h : c ∉ w) : splitL c cur (w ++ c :: r) = (cur ++ w) :: splitL c [] r := by
  rw [splitL_app h, splitL, if_pos rfl]
theorem splitL_end {c : UInt8} {w cur : List UInt8} (h : c ∉ w) : splitL c cur w = [cur ++ w] := by
  have := splitL_app (r := []) (cur := cur) h
  rw [List.append_nil] at this
  rw [this, splitL]
theorem split_tail : ∀ {l : List (List UInt8)} {x : List UInt8}, (∀ w, w ∈ x :: l → (32 : UInt8) ∉ w) → splitL 32 [] (x ++ Lib.joinTail [32] l) = x :: l
  | [], x, h => by
    rw [show Lib.joinTail [32] [] = ([] : List UInt8) from rfl, List.append_nil]
    rw [splitL_end (h x (by simp))]
    rfl
  | y :: l, x, h => by
    have ih := split_tail (l := l) (x := y) fun w hw => h w (List.mem_cons_of_mem _ hw)
    rw [show Lib.joinTail [32] (y :: l) = 32 :: (y ++ Lib.joinTail [32] l) by simp [Lib.joinTail], splitL_at (h x (by simp)), ih]
    rfl
theorem split_join {ws : List (List UInt8)} (h0 : ws ≠ []) (h : ∀ w, w ∈ ws → (32 : UInt8) ∉ w) : splitL 32 [] (Lib.join ws [32]) = ws := by
  rcases ws with _ | ⟨x, l⟩
  · exact absurd rfl h0
  · rw [Lib.join_cons]
    exact split_tail h
theorem split_flat : ∀ {Ls : List (List UInt8)}, (∀ L, L ∈ Ls → (10 : UInt8) ∉ L) → splitL 10 [] (Ls.map (· ++ [10])).flatten = Ls ++ [[]]
  | [], _ => rfl
  | L :: Ls, h => by
    have ih := split_flat (Ls := Ls) fun w hw => h w (List.mem_cons_of_mem _ hw)
    rw [List.map_cons, List.flatten_cons, List.append_assoc, List.singleton_append, splitL_at (h L (by simp)), ih]
    rfl
theorem rowF_append : ∀ {l1 l2 : List (List UInt8)} {zs : List Int}, rowF (l1 ++ l2) zs = (rowF l1 zs).bind fun zs' => rowF l2 zs'
  | [], _, _ => rfl
  | w :: l1, l2, zs => by
    rw [List.cons_append, rowF, rowF]
    split
    · exact rowF_append
    · rfl
theorem rowsF_append : ∀ {l1 l2 : List (List UInt8)} {zs : List Int}, rowsF (l1 ++ l2) zs = (rowsF l1 zs).bind fun zs' => rowsF l2 zs'
  | [], _, _ => rfl
  | L :: l1, l2, zs => by
    rw [List.cons_append, rowsF, rowsF]
    split
    · exact rowsF_append
    · cases rowF (splitL 32 [] L) zs with
      | none => rfl
      | some zs' => exact rowsF_append
section
variable {w h s : Int} {m wd : Nat} {zs : List Int}
theorem wb_no {l : List UInt8} (h : ∀ b, b ∈ l → wb b) : (32 : UInt8) ∉ l ∧ (10 : UInt8) ∉ l := ⟨fun hm => by have := h _ hm; unfold wb at this; exact absurd this (by decide), fun hm => by have := h _ hm; unfold wb at this; exact absurd this (by decide)⟩
theorem join_no {ws : List (List UInt8)} (h : ∀ w, w ∈ ws → ∀ b, b ∈ w → wb b) : (10 : UInt8) ∉ Lib.join ws [32] := fun hm => by
  rcases join_mem hm with h1 | ⟨w, hw, hb⟩
  · exact absurd h1 (by decide)
  · exact (wb_no (h w hw)).2 hb
theorem join_ne {ws : List (List UInt8)} (h0 : ws ≠ []) (h : ∀ w, w ∈ ws → w ≠ []) : Lib.join ws [32] ≠ [] := fun e => by
  rcases ws with _ | ⟨x, l⟩
  · exact h0 rfl
  · rw [Lib.join_cons] at e
    exact h x (by simp) (List.append_eq_nil_iff.1 e).1
theorem rowF_row (hz : ∀ i, -1200000 ≤ gi zs i ∧ gi zs i ≤ 1200000) {y : Nat} : ∀ {i : Nat}, y * wd * 2 + i * 2 ≤ zs.length → rowF (rowW wd zs y i) (zs.take (y * wd * 2)) = some (zs.take (y * wd * 2 + i * 2))
  | 0, _ => by simp [rowW, rowF]
  | i + 1, hi => by
    rw [rowW, rowF_append, rowF_row hz (by omega)]
    simp only [Option.bind_some, rowF]
    rw [spanF_word (hz _) (hz _)]
    simp only [if_true]
    rw [take_two (by omega), show y * wd * 2 + i * 2 + 2 = y * wd * 2 + (i + 1) * 2 by omega]
def rowsJ (wd : Nat) (zs : List Int) (n : Nat) : List (List UInt8) := (List.range n).map fun y => Lib.join (rowW wd zs y wd) [32]
theorem rowsJ_succ {n : Nat} : rowsJ wd zs (n + 1) = rowsJ wd zs n ++ [Lib.join (rowW wd zs n wd) [32]] := by
  unfold rowsJ
  rw [List.range_succ, List.map_append]
  rfl
theorem rowsL_J : ∀ {n : Nat}, rowsL wd zs n = ((rowsJ wd zs n).map (· ++ [10])).flatten
  | 0 => rfl
  | n + 1 => by
    rw [rowsL, rowsL_J, rowsJ_succ, lineL]
    simp
theorem rowsF_rows (hz : ∀ i, -1200000 ≤ gi zs i ∧ gi zs i ≤ 1200000) (hw : 0 < wd) : ∀ {n : Nat}, n * wd * 2 ≤ zs.length → rowsF (rowsJ wd zs n) [] = some (zs.take (n * wd * 2))
  | 0, _ => by simp [rowsJ, rowsF]
  | n + 1, hn => by
    have e : (n + 1) * wd * 2 = n * wd * 2 + wd * 2 := by rw [Nat.add_mul]; omega
    rw [e] at hn ⊢
    have hwb := row_wb (wd := wd) hz (y := n) (i := wd)
    rw [rowsJ_succ, rowsF_append, rowsF_rows hz hw (by omega)]
    simp only [Option.bind_some, rowsF]
    rw [if_neg (join_ne (rowW_ne hw) fun w hw => (hwb w hw).1), split_join (rowW_ne hw) fun w hw => (wb_no (hwb w hw).2).1, rowF_row hz hn]
    rfl
theorem parse_text (hE : gridE w h s m zs = 0) (hl : zs.length = m * 2) : parseS (textL w h s zs) = some ⟨w, h, s, zs⟩ := by
  obtain ⟨hw, hh, hmw, hv⟩ := gridE_parts hE
  have hs := gridE_s hE
  obtain ⟨wd, rfl⟩ : ∃ wd : Nat, w = (wd : Int) := ⟨w.toNat, by omega⟩
  obtain ⟨ht, rfl⟩ : ∃ ht : Nat, h = (ht : Int) := ⟨h.toNat, by omega⟩
  have hm1 : m = ht * wd := by
    have : (m : Int) = ((ht * wd : Nat) : Int) := by rw [hmw, Int.natCast_mul, Int.mul_comm]
    omega
  have hz : ∀ i, -1200000 ≤ gi zs i ∧ gi zs i ≤ 1200000 := fun i => by
    by_cases hi : i < m * 2
    · obtain ⟨j, hj⟩ : ∃ j, i = j * 2 ∨ i = j * 2 + 1 := ⟨i / 2, by omega⟩
      rcases hj with rfl | rfl
      · have := hv j (by omega); omega
      · have := hv j (by omega); omega
    · have : gi zs i = 0 := by simp [gi, List.getD, show zs.length ≤ i by omega]
      omega
  have hwb := head_wb (w := (wd : Int)) (h := (ht : Int)) (s := s) (by omega) (by omega) (by omega)
  obtain ⟨H, hH⟩ : ∃ H, H = [[103, 114, 105, 100], itoaA wd, itoaA ht, itoaA s] := ⟨_, rfl⟩
  have eT : textL (wd : Int) (ht : Int) s zs = ((Lib.join H [32] :: rowsJ wd zs ht).map (· ++ [10])).flatten := by
    unfold textL headL lineL
    rw [Int.toNat_natCast, Int.toNat_natCast, rowsL_J, hH]
    simp
  rw [← hH] at hwb
  have hS : splitL 10 [] (textL (wd : Int) (ht : Int) s zs) = (Lib.join H [32] :: rowsJ wd zs ht) ++ [[]] := by
    rw [eT]
    refine split_flat fun L hL => ?_
    rcases List.mem_cons.1 hL with rfl | h1
    · exact join_no fun w hw => (hwb w hw).2
    · unfold rowsJ at h1
      obtain ⟨y, _, rfl⟩ := List.mem_map.1 h1
      exact join_no fun w hw => (row_wb hz w hw).2
  unfold parseS
  rw [hS]
  simp only [List.cons_append, List.headD_cons, List.tail_cons]
  rw [split_join (by rw [hH]; simp) fun w hw => (wb_no (hwb w hw).2).1, rowsF_append, rowsF_rows hz (by omega) (by rw [hl, hm1]; exact Nat.le_refl _), List.take_of_length_le (by rw [hl, hm1]; exact Nat.le_refl _), hH, headS, numF_itoa (by omega) (by omega), numF_itoa (by omega) (by omega), numF_itoa (by omega) (by omega)]
  simp [rowsF]
end
end Go.Ab.Grid
set_option maxRecDepth 100000
namespace Go.Ab.Grid
open Go Go.Ab
def pa283 : ACode := (.ops [
oP 2 (.box (.t 0)),
oP 4 (.move (.k (.bool false)))])
def pb283 : ACode := (.seq
 (.ops [
oF 11 2 3,
oL 12 11,
oP 13 (.len (.t 12)),
oC 14 .gtr 13 600,
oM 15 14,
oN 16 15 false 1,
oQ 17 15 false (.lenT (.t 16)),
oQ 18 15 false (.bin .gtr (.t 17) (oK 3000)),
oN 19 15 false 18,
oN 20 19 true 1,
oQ 21 19 true (.lenT (.t 20)),
oQ 22 19 true (.bin .leq (.t 21) (oK 65536)),
oQ 23 15 false (.pick (.t 19) (.t 22) (.k (.bool false))),
oP 24 (.pick (.t 15) (.k (.bool true)) (.t 23)),
oM 25 24,
oN 26 25 false 1,
oQ 27 25 false (.lenT (.t 26)),
oQ 28 25 false (.bin .gtr (.t 27) (oK 65636)),
oP 29 (.pick (.t 25) (.k (.bool true)) (.t 28))])
 (.cond (.t 29)
 (.seq
 (.ops [
oA 30 289 [] false,
oM 4 30])
 .ret)
 .skip))
def pc283 : ACode := (.ops [
oD 32 2 4,
oA 33 306 [.t 32] false,
oM 31 33,
oX 34 31 0,
oX 35 31 1,
oM 5 34,
oM 6 35])
def pd283 : ACode := (.ops [
oD 37 2 4,
oA 38 307 [.t 37] false,
oM 36 38,
oX 39 36 0,
oX 40 36 1,
oM 7 39,
oM 8 40])
def pe283 : ACode := (.seq
 (.ops [
oM 41 5,
oM 42 7,
oP 43 (.strOp .neq (.t 41) (.t 42)),
oM 44 43,
oN 45 44 false 6,
oN 46 44 false 8,
oQ 47 44 false (.bin .neq (.t 45) (.t 46)),
oP 48 (.pick (.t 44) (.k (.bool true)) (.t 47))])
 (.cond (.t 48)
 (.seq
 (.ops [
oP 4 (.move (.k (.bool false)))])
 .ret)
 .skip))
def pf283 : ACode := (.ops [
oM 50 1,
oA 51 308 [.t 50] false,
oM 49 51,
oX 52 49 0,
oX 53 49 1,
oP 9 (.alloc [.int .i64 0, .int .i64 0, .int .i64 0, .slice none 0 0]),
oT 9 52 4,
oM 6 53])
def pg283 : ACode := (.ops [
oM 55 1,
oA 56 309 [.t 55] false,
oM 54 56,
oX 57 54 0,
oX 58 54 1,
oP 10 (.alloc [.int .i64 0, .int .i64 0, .int .i64 0, .slice none 0 0]),
oT 10 57 4,
oM 8 58])
def ph283 : ACode := (.seq
 (.ops [
oD 59 9 4,
oD 60 10 4,
oA 61 301 [.t 59, .t 60] false,
oM 62 61,
oN 63 62 true 6,
oN 64 62 true 8,
oQ 65 62 true (.bin .eql (.t 63) (.t 64)),
oP 66 (.pick (.t 62) (.t 65) (.k (.bool false))),
oM 67 66,
oQ 68 67 true (.call (.k (.func (.func 289) ⟨[]⟩ ⟨[]⟩)) [] false),
oP 69 (.pick (.t 67) (.t 68) (.k (.bool false))),
oM 4 69])
 .ret)
theorem AP283 : AP 283 = some (.fn 70 [.tmp 4] (.seq pa283 (.seq pb283 (.seq pc283 (.seq pd283 (.seq pe283 (.seq pf283 (.seq pg283 ph283)))))))) := rfl
theorem WrV.det {w h s e e' : Int} {m : Nat} {zs : List Int} {t t' : List UInt8} (a : WrV w h s m zs t e) (b : WrV w h s m zs t' e') : t' = t ∧ e' = e := by
  rcases a with ⟨a1, a2, a3⟩ | ⟨a1, a2, a3⟩ <;> rcases b with ⟨b1, b2, b3⟩ | ⟨b1, b2, b3⟩
  · exact ⟨b2.trans a2.symm, b3.trans a3.symm⟩
  · exact absurd b1 a1
  · exact absurd a1 b1
  · exact ⟨b2.trans a2.symm, b3.trans a3.symm⟩
theorem GAt.shp' {A : Hp} {y : G} {vg : Value} (hy : GAt A y vg) : ∃ p c, vg = gridV y.w y.h y.s (.slice p y.m c) ∧ RdS A 2 y.m (ints y.zs) (.slice p y.m c) := by
  obtain ⟨sl, rfl, rs⟩ := hy
  obtain ⟨p, c, rfl⟩ := rs.isSlice'
  exact ⟨p, c, rfl, rs⟩
theorem reads_same {A B : Hp} {l : List UInt8} {v v' : Value} {e e' : Int} (a : RdV A l v e) (b : RdW B l v' e') : e' = e ∧ ∃ x : G, x.m < 1000000 ∧ GAt A x v ∧ GAt B x v' := by
  rcases a with ⟨a1, rfl, a3⟩ | ⟨a1, a⟩
  · rcases b with ⟨b1, rfl, b3⟩ | ⟨b1, _⟩
    · exact ⟨rfl, G0, by decide, a3, b3⟩
    · omega
  · rcases b with ⟨b1, _⟩ | ⟨b1, b⟩
    · omega
    · have key : ∀ st : PSt, st.zs.length = st.zs.length / 2 * 2 → st.E = 0 → st.text = l → readP l = some st ∧ parseS l = some st := fun st h0 hE ht => by
        have h1 := read_text (w := st.w) (h := st.h) (s := st.s) (m := st.zs.length / 2) (zs := st.zs) hE h0
        have h2 := parse_text (w := st.w) (h := st.h) (s := st.s) (m := st.zs.length / 2) (zs := st.zs) hE h0
        have ht' : textL st.w st.h st.s st.zs = l := ht
        rw [ht'] at h1 h2
        exact ⟨h1, h2⟩
      have even : ∀ {C : Hp} {st : PSt} {v : Value}, GAt C st.G v → st.zs.length = st.zs.length / 2 * 2 := fun {C st v} hG => by
        obtain ⟨_, _, r⟩ := hG
        have := r.1
        simpa [PSt.G] using this
      rcases a with ⟨st, p1, p2, p3, rfl, p5, p6⟩ | ⟨p1, rfl, p3⟩
      · obtain ⟨k1, k2⟩ := key st (even p6) p2 p3
        rcases b with ⟨st', q1, q2, q3, rfl, q5, q6⟩ | ⟨q1, _⟩
        · rw [k2] at q1
          obtain rfl := Option.some.inj q1
          exact ⟨rfl, st.G, by show st.zs.length / 2 < 1000000; omega, p6, q6⟩
        · exact absurd p3 (q1 st k2 p2)
      · rcases b with ⟨st', q1, q2, q3, rfl, q5, q6⟩ | ⟨q1, rfl, q3⟩
        · obtain ⟨k1, k2⟩ := key st' (even q6) q2 q3
          exact absurd q3 (p1 st' k1 q2)
        · exact ⟨rfl, G0, by decide, p3, q3⟩
section
variable {g : Nat} {rd : Option Nat} {T : List Value} {D : List Nat} {A : Hp} {Q : Ex → St → Prop} {V : Value → Hp → Prop}
theorem law283 {x : G} {vx : Value} {l : List UInt8} (hx : GAt A x vx) (hg : g ≤ A.n) (hV : ∀ A', V (.bool true) A') : WF AP KL g 283 [vx, strV l] A V := by
  obtain ⟨px, cx, rfl, rx⟩ := hx.shp'
  rw [WF_body (show KL 283 = none from rfl) AP283]
  have hsz : (⟨⟨l⟩⟩ : ByteArray).size = l.length := rfl
  have hlx := rx.len
  obtain ⟨B, hB⟩ : ∃ B, B = A.push (.cells [.int .i64 x.w, .int .i64 x.h, .int .i64 x.s, .slice px x.m cx] false) := ⟨_, rfl⟩
  have eB : Ext' A B := by rw [hB]; exact Ext'.push _ _
  have nB : B.n = A.n + 1 := by rw [hB]; rfl
  have b2 : B.get A.n = some (.cells [.int .i64 x.w, .int .i64 x.h, .int .i64 x.s, .slice px x.m cx] false) := by rw [hB]; exact get_push_new
  by_cases h6 : (600 : Int) < x.m
  · simp (disch := as_aux_lemma => first | omega | simp only [hDs] <;> omega | simp [isCell]) [hRs, takeMarks, resA, resAll, resOne, Value.cells, pa283, pb283, gridV, ← hB, b2, hlx, h6]
    exact hV _
  · have rest : ∀ (T : List Value), l.length ≤ 900000 → tget T 0 = gridV x.w x.h x.s (.slice px x.m cx) → tget T 1 = strV l → tget T 2 = .pointer (some ⟨A.n, 0, none⟩) →
        W AP KL g none pc283 ⟨T, [], B⟩ (SeqQ AP KL g none (.seq pd283 (.seq pe283 (.seq pf283 (.seq pg283 ph283)))) (FinQ [.tmp 4] V)) := by
      intro T hl t0 t1 t2
      simp (disch := as_aux_lemma => first | omega | simp only [hDs] <;> omega | simp [isCell]) [hRs, takeMarks, resA, resAll, resOne, Value.cells, pc283, t2, b2]
      refine w306 (w := x.w) (h := x.h) (s := x.s) (m := x.m) (zs := x.zs) (by omega) (eB.rdS rx) (by omega) fun A1 t e e1 hW => ?_
      have n1 := e1.1
      simp (disch := as_aux_lemma => first | omega | simp only [hDs] <;> omega | simp [isCell]) [hRs, takeMarks, resA, resAll, resOne, Value.cells, pd283, t2, e1.get b2]
      refine w307 (w := x.w) (h := x.h) (s := x.s) (m := x.m) (zs := x.zs) (by omega) ((eB.trans e1).rdS rx) (by omega) fun A2 t' e' e2 hW' => ?_
      have n2 := e2.1
      obtain ⟨rfl, rfl⟩ := hW.det hW'
      simp (disch := as_aux_lemma => first | omega | simp only [hDs] <;> omega | simp [isCell]) [hRs, takeMarks, resA, resAll, resOne, Value.cells, pe283, strNeq, pf283, t1]
      refine w308 (l := l) hl (by omega) fun A3 vg f e3 hR => ?_
      have n3 := e3.1
      have hRE : ∃ y : G, GAt A3 y vg := by
        rcases hR with ⟨_, _, h⟩ | ⟨_, ⟨st, _, _, _, _, _, h⟩ | ⟨_, _, h⟩⟩ <;> exact ⟨_, h⟩
      obtain ⟨y0, hy0⟩ := hRE
      obtain ⟨p9, c9, hvg, _⟩ := hy0.shp'
      have hG9 : ∃ w h s m, vg = gridV w h s (.slice p9 m c9) := ⟨_, _, _, _, hvg⟩
      obtain ⟨w9, h9, s9, m9, rfl⟩ := hG9
      obtain ⟨C, hC⟩ : ∃ C, C = A3.push (.cells [.int .i64 w9, .int .i64 h9, .int .i64 s9, .slice p9 m9 c9] false) := ⟨_, rfl⟩
      have eC : Ext' A3 C := by rw [hC]; exact Ext'.push _ _
      have nC : C.n = A3.n + 1 := by rw [hC]; rfl
      have k9 : C.get A3.n = some (.cells [.int .i64 w9, .int .i64 h9, .int .i64 s9, .slice p9 m9 c9] false) := by rw [hC]; exact get_push_new
      simp (disch := as_aux_lemma => first | omega | simp only [hDs] <;> omega | simp [isCell]) [hRs, takeMarks, resA, resAll, resOne, Value.cells, gridV, storeB_cells, setRange_all, set_push_eq, fillA, ← hC, pg283, t1]
      refine w309 (l := l) hl (by omega) fun A4 vh f' e4 hR' => ?_
      have n4 := e4.1
      obtain ⟨rfl, y, hym, hya, hyb⟩ := reads_same hR hR'
      obtain ⟨p10, c10, hvh, _⟩ := hyb.shp'
      have hG10 : ∃ w h s m, vh = gridV w h s (.slice p10 m c10) := ⟨_, _, _, _, hvh⟩
      obtain ⟨w10, h10, s10, m10, rfl⟩ := hG10
      obtain ⟨E, hE⟩ : ∃ E, E = A4.push (.cells [.int .i64 w10, .int .i64 h10, .int .i64 s10, .slice p10 m10 c10] false) := ⟨_, rfl⟩
      have eE : Ext' A4 E := by rw [hE]; exact Ext'.push _ _
      have nE : E.n = A4.n + 1 := by rw [hE]; rfl
      have k10 : E.get A4.n = some (.cells [.int .i64 w10, .int .i64 h10, .int .i64 s10, .slice p10 m10 c10] false) := by rw [hE]; exact get_push_new
      have hxa : GAt E y (gridV w9 h9 s9 (.slice p9 m9 c9)) := by
        obtain ⟨sl, a1, a2⟩ := hya
        exact ⟨sl, a1, (eC.trans (e4.trans eE)).rdS a2⟩
      have hxb : GAt E y (gridV w10 h10 s10 (.slice p10 m10 c10)) := by
        obtain ⟨sl, a1, a2⟩ := hyb
        exact ⟨sl, a1, eE.rdS a2⟩
      simp (disch := as_aux_lemma => first | omega | simp only [hDs] <;> omega | simp [isCell]) [hRs, takeMarks, resA, resAll, resOne, Value.cells, gridV, storeB_cells, setRange_all, set_push_eq, fillA, ← hE, ph283, (e4.trans eE).get k9, k10]
      refine w301 (x := y) (y := y) hxa hxb hym rfl fun A5 e5 => ?_
      simp (disch := as_aux_lemma => first | omega | simp only [hDs] <;> omega | simp [isCell]) [hRs, takeMarks, resA, resAll, resOne, Value.cells]
      exact hV _
    by_cases h3 : 3000 < l.length
    · by_cases h65 : l.length ≤ 65536
      · simp (disch := as_aux_lemma => first | omega | simp only [hDs] <;> omega | simp [isCell]) [hRs, takeMarks, resA, resAll, resOne, Value.cells, pa283, pb283, gridV, ← hB, b2, hlx, h6, lenTV, goInt, hsz, h3, show (3000 : Int) < l.length by omega, h65, show (l.length : Int) ≤ 65536 by omega]
        exact hV _
      · by_cases h66 : 65636 < l.length
        · simp (disch := as_aux_lemma => first | omega | simp only [hDs] <;> omega | simp [isCell]) [hRs, takeMarks, resA, resAll, resOne, Value.cells, pa283, pb283, gridV, ← hB, b2, hlx, h6, lenTV, goInt, hsz, h3, show (3000 : Int) < l.length by omega, h65, show ¬ (l.length : Int) ≤ 65536 by omega, h66, show (65636 : Int) < l.length by omega]
          exact hV _
        · simp (disch := as_aux_lemma => first | omega | simp only [hDs] <;> omega | simp [isCell]) [hRs, takeMarks, resA, resAll, resOne, Value.cells, pa283, pb283, gridV, ← hB, b2, hlx, h6, lenTV, goInt, hsz, h3, show (3000 : Int) < l.length by omega, h65, show ¬ (l.length : Int) ≤ 65536 by omega, h66, show ¬ (65636 : Int) < l.length by omega]
          refine rest _ (by omega) ?_ ?_ ?_
          · simp [gridV]
          · simp
          · simp
    · simp (disch := as_aux_lemma => first | omega | simp only [hDs] <;> omega | simp [isCell]) [hRs, takeMarks, resA, resAll, resOne, Value.cells, pa283, pb283, gridV, ← hB, b2, hlx, h6, lenTV, goInt, hsz, h3, show ¬ (3000 : Int) < l.length by omega, show ¬ (65636 : Int) < l.length by omega, show ¬ 65636 < l.length by omega]
      refine rest _ (by omega) ?_ ?_ ?_
      · simp [gridV]
      · simp
      · simp
end
end Go.Ab.Grid
set_option maxRecDepth 100000
namespace Go.Ab.Grid
open Go Go.Ab
section
variable {g : Nat} {rd : Option Nat} {T : List Value} {D : List Nat} {A : Hp} {Q : Ex → St → Prop} {V : Value → Hp → Prop}
end
end Go.Ab.Grid
set_option maxRecDepth 100000
namespace Go.Ab.Grid
open Go Go.Ab
structure Land where
  wide : Int
  high : Int
  nl : Nat
  low : List Int
  nm : Nat
  more : List Int
def Land.lo (L : Land) (i : Nat) : Int := if 0 < L.nl then gi L.low (i % L.nl) else 0
def Land.hi (L : Land) (i : Nat) : Int := L.lo i + if 0 < L.nm then gi L.more (i % L.nm) else 0
def Land.w (L : Land) : Int := 1 + L.wide.tmod 5
def Land.h (L : Land) : Int := 1 + L.high.tmod 5
def Land.n (L : Land) : Nat := (L.w * L.h).toNat
def Land.zs (L : Land) : Nat → List Int
  | 0 => []
  | i + 1 => L.zs i ++ [L.lo i, L.hi i]
def Land.G (L : Land) : G := ⟨L.w, L.h, 100, L.n, L.zs L.n⟩
structure Land.Ok (L : Land) : Prop where
  wide : 0 ≤ L.wide ∧ L.wide ≤ 255
  high : 0 ≤ L.high ∧ L.high ≤ 255
  low : ∀ i, -32768 ≤ gi L.low i ∧ gi L.low i ≤ 32767
  more : ∀ i, 0 ≤ gi L.more i ∧ gi L.more i ≤ 255
  nl : L.low.length = L.nl ∧ L.nl ≤ 9223372036854775807
  nm : L.more.length = L.nm ∧ L.nm ≤ 9223372036854775807
def Land.V (L : Land) (sl sm : Value) : Value := .agg ⟨[.int .u8 L.wide, .int .u8 L.high, sl, sm]⟩
theorem Land.Ok.w {L : Land} (h : L.Ok) : 1 ≤ L.w ∧ L.w ≤ 5 := by
  have h1 := Int.tmod_nonneg 5 h.wide.1
  have h2 := Int.tmod_lt_of_pos L.wide (show (0 : Int) < 5 by decide)
  unfold Land.w; omega
theorem Land.Ok.h {L : Land} (h : L.Ok) : 1 ≤ L.h ∧ L.h ≤ 5 := by
  have h1 := Int.tmod_nonneg 5 h.high.1
  have h2 := Int.tmod_lt_of_pos L.high (show (0 : Int) < 5 by decide)
  unfold Land.h; omega
theorem Land.Ok.n {L : Land} (h : L.Ok) : (L.n : Int) = L.w * L.h ∧ 1 ≤ L.n ∧ L.n ≤ 25 := by
  have a := Int.mul_le_mul h.w.1 h.h.1 (by decide) (by have := h.w; omega)
  have b := Int.mul_le_mul h.w.2 h.h.2 (by have := h.h; omega) (by decide)
  unfold Land.n; omega
section
variable {g : Nat} {rd : Option Nat} {T : List Value} {D : List Nat} {A : Hp} {Q : Ex → St → Prop} {V : Value → Hp → Prop}
end
end Go.Ab.Grid
set_option maxRecDepth 100000
namespace Go.Ab.Grid
open Go Go.Ab
theorem maxLen_lt : maxLen ≤ 9223372036854775807 := by decide
end Go.Ab.Grid
set_option maxRecDepth 100000
namespace Go.Ab.Grid
open Go Go.Ab
theorem sh_str {rows : List (List Value)} {cs : List Value} (h : Sh rows .str cs) : ∃ l : List UInt8, mkV .str cs = strV l ∧ l.length ≤ 9223372036854775807 := by
  obtain ⟨s, rfl, hs⟩ := h
  refine ⟨s.data.toList, ?_, ?_⟩
  · show Value.string s = _
    rw [show s = ⟨⟨s.data.toList⟩⟩ from (bytes_back s).symm]
  · have := maxLen_lt
    have e : s.size = s.data.toList.length := Array.length_toList.symm
    omega
end Go.Ab.Grid
set_option maxRecDepth 100000
namespace Go.Ab.Grid
open Go Go.Ab Go.Proofs Go.Shelf Go.ChangeShapes Go.WideShapes Go.ChangeAt Go.RowKit Go.Proofs.YtmppgcknmmmioaaGreatDoor
theorem isFn' (f nt : Nat) (rs : List ARes) (c : ACode) {W0 : Array Obj} (h : AP f = some (.fn nt rs c)) : ∃ nt rs body, (E W0).AP f = some (.fn nt rs body) := ⟨nt, rs, c, h⟩
theorem own : ownKnob Tryz.prog.godebug = none := by kernel_rfl
theorem laidOut : laidOutB Tryz.prog = true := by kernel_rfl
abbrev laidL : List (String × DataW Unit) := Rows.gridNearsRow.laid
theorem white {w : World} : Lib.VarReads Tryz.prog w "unicode.White_Space" Lib.whiteData → Lib.WhiteTab 1 w := fun h =>
  whiteTab_of_reads (ρ := Tryz.lays157_ren) { Tryz.lays157 with } { n6 := by kernel_rfl, y6 := by kernel_rfl, c3 := by kernel_rfl, c49 := by kernel_rfl, c193 := by kernel_rfl, c194 := by kernel_rfl, c196 := by kernel_rfl, c198 := by kernel_rfl } h
theorem var_heap {w : World} {n : String} {g : Nat} {cs : Array Value} (hg : Tryz.prog.globalNamed n = some g) (h : w.var? Tryz.prog n = some cs) : ∃ t fr, w.heap[g]? = some (.cells cs t fr) := by
  unfold World.var? at h
  rw [hg] at h
  simp only [Option.bind_some] at h
  split at h
  · rename_i cs' t fr he; cases h; exact ⟨t, fr, he⟩
  · cases h
theorem laidW_of {w : World} (hm : laidMet Tryz.prog laidL w) (hs : w.ShapedOpen Tryz.prog) : LaidW w := by
  have hp := Lib.laidMet.reads hm (d := Rows.laid_internal_strconv_uint64pow10) (List.mem_cons_of_mem _ (List.mem_cons_of_mem _ List.mem_cons_self))
  have hr := Lib.laidMet.reads hm (d := Rows.laid_strconv_ErrRange) (List.mem_cons_of_mem _ (List.mem_cons_of_mem _ (List.mem_cons_of_mem _ List.mem_cons_self)))
  have hy := Lib.laidMet.reads hm (d := Rows.laid_strconv_ErrSyntax) (List.mem_cons_of_mem _ (List.mem_cons_of_mem _ (List.mem_cons_of_mem _ (List.mem_cons_of_mem _ List.mem_cons_self))))
  have hw := Lib.laidMet.reads hm (d := Rows.laid_unicode_White_Space) (List.mem_cons_of_mem _ (List.mem_cons_of_mem _ (List.mem_cons_of_mem _ (List.mem_cons_of_mem _ (List.mem_cons_of_mem _ List.mem_cons_self)))))
  have ha := Lib.laidMet.reads hm (d := Rows.laid_strings_asciiSpace) (List.mem_cons_of_mem _ (List.mem_cons_of_mem _ (List.mem_cons_of_mem _ (List.mem_cons_of_mem _ (List.mem_cons_of_mem _ (List.mem_cons_of_mem _ List.mem_cons_self))))))
  have iface : ∀ {n : String} {nm : String} {d : DataW Unit} {g : Nat} {t : TypeId} {ms : Array (String × TypeId)}, Tryz.prog.globalNamed n = some g → (Tryz.prog.globals[g]?).map (·.type) = some t → Tryz.prog.underlying t = some (.interface ms) →
      Lib.VarReads Tryz.prog w n (.iface nm d) → ∃ ev, w.cell? ⟨g, 0, none⟩ = some ev ∧ (ev = .nilIface ∨ ∃ te pe, ev = .iface te pe) := by
    intro n nm d g t ms hg ht hu h
    obtain ⟨g', t', cs, fuel, p, hg', ht', hv, hd⟩ := h
    obtain rfl := Option.some.inj (hg.symm.trans hg')
    obtain rfl := Option.some.inj (ht.symm.trans ht')
    obtain ⟨_, u, v, hcs, _, _⟩ := iface_of_trod hu hd
    have := World.var?_cell hg hv 0
    rw [← Array.getElem?_toList, hcs] at this
    exact ⟨_, this, .inr ⟨u, v, rfl⟩⟩
  have tab : ∀ {n : String} {k : IntKind} {zs : List Int} {g : Nat} {t e : TypeId} {N : Nat}, Tryz.prog.globalNamed n = some g → (Tryz.prog.globals[g]?).map (·.type) = some t → Tryz.prog.underlying t = some (.array N e) →
      Tryz.prog.underlying e = some (.int k) → Tryz.prog.cellsOf e = 1 → Tryz.prog.cellsOf t = N → Lib.VarReads Tryz.prog w n (Lib.tabData k zs) → ∃ t fr, w.heap[g]? = some (.cells (zs.map fun z => Value.int k z).toArray t fr) := by
    intro n k zs g t e N hg ht hu he hce hct h
    obtain ⟨g', t', cs, fuel, p, hg', ht', hv, hd⟩ := h
    obtain rfl := Option.some.inj (hg.symm.trans hg')
    obtain rfl := Option.some.inj (ht.symm.trans ht')
    have hcs := Lib.cells_of_tab hu he hce hct hd
    obtain ⟨t, fr, h⟩ := var_heap hg hv
    exact ⟨t, fr, by rw [h, ← hcs]⟩
  refine ⟨?_, ?_, ?_, ?_, ?_, white hw⟩
  · exact cell_of_shapedOpen_int (zero := #[.int .i64 0]) (t := 3) hs (of_decide_eq_true (by kernel_rfl)) (by kernel_rfl) rfl (by kernel_rfl) (by kernel_rfl) Tryz.underlying3
  · exact iface (by kernel_rfl) (by kernel_rfl) Tryz.underlying122 hy
  · exact iface (by kernel_rfl) (by kernel_rfl) Tryz.underlying122 hr
  · exact tab (by kernel_rfl) (by kernel_rfl) Tryz.underlying207 (by kernel_rfl) (by kernel_rfl) (by kernel_rfl) ((show Rows.laid_internal_strconv_uint64pow10 = Lib.tabData .u64 Lib.pow10Tab by kernel_rfl) ▸ hp)
  · exact tab (by kernel_rfl) (by kernel_rfl) Tryz.underlying153 (by kernel_rfl) (by kernel_rfl) (by kernel_rfl) ((show Rows.laid_strings_asciiSpace = Lib.tabData .u8 Lib.asciiSpaceTab by kernel_rfl) ▸ ha)
section
variable {H : Type} {enc : TypeId × Value → H} {os : Os}
theorem laid_all (args : Array Value) : laidMetH Tryz.prog laidL ((World.laidAll Tryz.prog os laidL).forCall (fun _ _ => 0) ⟨#[], args, []⟩).memory := by
  rw [MakeChecks.laidMetH_plain _ _ _ (by kernel_rfl)]
  exact laidMet_laidAll _ (by kernel_rfl) (by kernel_rfl)
theorem laid_shaped (args : Array Value) : ((World.laidAll Tryz.prog os laidL).forCall (fun _ _ => 0) ⟨#[], args, []⟩).Shaped Tryz.prog := World.shaped_of_ZipB (by kernel_rfl) (by kernel_rfl)
theorem returns_laid {f : FuncId} {fn : Func} {s : ChangeSpec} (started : os.Started) (noInit : Tryz.checked.prog.inits.idxOf? f = none) (hfn : Tryz.checked.prog.funcs[f]? = some fn) (args0 : Array Value)
    (hok : Input.okWideB Tryz.checked.prog ((World.laidAll Tryz.prog os laidL).forCall (fun _ _ => 0) ⟨#[], args0, []⟩) f ⟨#[], args0, []⟩ = true)
    (hpre : s.preB enc Tryz.checked.prog fn [] false ((World.laidAll Tryz.prog os laidL).forCall (fun _ _ => 0) ⟨#[], args0, []⟩).memory args0 8 = true)
    (hsz : s.sizedB enc Tryz.checked.prog fn false ((World.laidAll Tryz.prog os laidL).forCall (fun _ _ => 0) ⟨#[], args0, []⟩).memory args0 8 = true)
    (contract : ∀ (W : World) (base : Nat) (args : Array Value) (ds gs : List (DataW H)) (before : List MemPlace),
      (∀ (j : Nat) t v, fn.params[j]? = some t → args[j]? = some v → Value.okWide Tryz.prog W .any base t v) →
      DataW.Whole enc Tryz.prog fn.params.toList s.vars false W args.toList ds gs before → LaidW W →
      Calls Tryz.prog f args W fun e W' => ∃ v, e = .returned v ∧ s.post enc Tryz.prog fn false true false false W args v W') :
    ReturnsInHanded {} Tryz.checked os f .any (fun w args => (s.pre enc Tryz.checked.prog fn [] false w args ∧ laidMetH Tryz.checked.prog laidL w) ∧ sizedMet enc Tryz.checked.prog fn (OpenSpec.ofChange s) false w args)
      (s.post enc Tryz.checked.prog fn false true false false) := by
  refine returnsInHanded_of_calls (C := Tryz.checked) own started noInit
    (ChangeSpec.witness_shaped (enc := enc) (C := Tryz.checked) (os := os) (s := s) (X := fun w _ => laidMetH Tryz.prog laidL w) false (World.laidAll Tryz.prog os laidL) args0 8 (World.laidAll_os _ _ _) (laid_shaped args0) hok hpre hsz (laid_all args0)) ?_
  intro w tape i _ hsh _ hok hpre _
  obtain ⟨_, _, _, fn', hfn', _, _, _, _, hval⟩ := hok
  have e : fn' = fn := Option.some.inj (hfn'.symm.trans hfn)
  subst e
  obtain ⟨⟨⟨ds, gs, before, hw, _⟩, hx⟩, _⟩ := hpre
  have hw' := DataW.Whole.of_heap (w' := w.forCall tape i) (by rfl) hw
  have hx' : laidMet Tryz.prog laidL (w.forCall tape i) := by
    have hx1 : laidMetH Tryz.prog laidL (w.forCall tape i).memory := hx
    rw [MakeChecks.laidMetH_plain _ _ _ (by kernel_rfl)] at hx1
    exact hx1.of_heap (by rfl)
  refine (contract (w.forCall tape i) w.heap.size i.args ds gs before hval hw' (laidW_of hx' hsh)).mono fun e W' ⟨v, he, hp⟩ => ?_
  subst he
  exact ChangeSpec.post_blind hp
end
end Go.Ab.Grid
set_option maxRecDepth 100000
namespace Go.Ab.Grid
open Go Go.Ab
def tGrid : Ty := .pair (.int .i64) (.pair (.int .i64) (.pair (.int .i64) (.pair (.slice (.rep 2 (.int .i64))) .unit)))
theorem sh_grid {rows : List (List Value)} {cs : List Value} (h : Sh rows tGrid cs) :
    ∃ (w h s : Int) (m : Nat) (zs : List Int) (sl : Value), mkV tGrid cs = gridV w h s sl ∧ RdS (roHp rows) 2 m (ints zs) sl ∧ m ≤ maxLen ∧ (∀ z ∈ zs, -9223372036854775808 ≤ z ∧ z ≤ 9223372036854775807) := by
  obtain ⟨_, _, rfl, h1, ⟨_, _, rfl, h2, ⟨_, _, rfl, h3, ⟨_, _, rfl, h4, rfl⟩⟩⟩⟩ := h
  obtain ⟨a1, rfl, b1⟩ := sh_int h1
  obtain ⟨a2, rfl, b2⟩ := sh_int h2
  obtain ⟨a3, rfl, b3⟩ := sh_int h3
  obtain ⟨n, zs, sl, rfl, r, m, b⟩ := sh_slice_k (k := .i64) rfl h4
  exact ⟨a1, a2, a3, n, zs, sl, rfl, r, m, b⟩
end Go.Ab.Grid
