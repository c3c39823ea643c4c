/- A grid among a law's arguments. -/
import Derived.Test.YtmppgcknmmmioaaGreatDoorZ17
import Derived.Test.YtmppgcknmmmioaaGreatDoorZ14
import Derived.Test.YtmppgcknmmmioaaGreatDoorZ13
import Derived.Test.YtmppgcknmmmioaaGreatDoorTie
import Derived.Lib.LaidU8
import Derived.Shelf.Vars
import Derived.Lay
import Derived.Handed
import Derived.MakeChecks
import Derived.Test.YtmppgcknmmmioaaGreatDoorZ15
set_option linter.unusedSimpArgs false
set_option linter.unusedVariables false
set_option linter.unusedSectionVars false
set_option maxRecDepth 100000
namespace Go.Ab.Grid
open Go Go.Ab
def body322c : ACode := (.seq
 (.seq
 (.ops [
oM 54 12])
 (.cond (.t 54)
 .skip
 (.exit 4)))
 (.block 5
 (.seq
 (.ops [
oP 12 (.move (.k (.bool false)))])
 (.seq
 (.ops [
oP 13 (.move (oK 0))])
 (.block 6
 (.loop
 (.seq
 (.seq
 (.ops [
oM 55 13,
oM 56 1,
oP 57 (.len (.t 56)),
oB 58 .lss 55 57])
 (.cond (.t 58)
 .skip
 (.exit 6)))
 (.seq
 (.block 7
 (.seq
 (.ops [
oD 61 4 4,
oM 62 13,
oA 63 73 [.t 61, .t 62] false,
oM 14 63])
 (.seq
 (.ops [
oP 15 (.move (oK 0))])
 (.block 8
 (.loop
 (.seq
 (.seq
 (.ops [
oM 64 15,
oM 65 14,
oP 66 (.len (.t 65)),
oB 67 .lss 64 66,
oM 68 67,
oN 69 68 true 13,
oN 70 68 true 3,
oQ 71 68 true (.bin .neq (.t 69) (.t 70)),
oP 72 (.pick (.t 68) (.t 71) (.k (.bool false)))])
 (.cond (.t 72)
 .skip
 (.exit 8)))
 (.seq
 (.block 9
 (.seq
 (.ops [
oM 75 9,
oM 76 14,
oM 77 15,
oI 78 76 77 1,
oL 79 78,
oI 80 75 79 1,
oL 81 80,
oM 82 1,
oM 83 13,
oI 84 82 83 1,
oL 85 84,
oP 86 (.max [.t 81, .t 85]),
oM 16 86])
 (.seq
 (.ops [
oM 87 16,
oM 88 9,
oM 89 13,
oI 90 88 89 1,
oL 91 90,
oB 92 .lss 87 91])
 (.cond (.t 92)
 (.seq
 (.ops [
oM 93 9,
oM 94 13,
oM 95 16,
oI 96 93 94 1,
oT 96 95 1])
 (.ops [
oP 12 (.move (.k (.bool true)))]))
 .skip))))
 (.ops [
oM 73 15,
oC 74 .add 73 1,
oM 15 74]))))))))
 (.ops [
oM 59 13,
oC 60 .add 59 1,
oM 13 60])))))))))
def Clo (P : SPar) (w h wo : Int) (o : List Int) : Prop := ∀ c : Nat, c < P.m → (c : Int) ≠ wo → ∀ d, d ∈ nbrs w h c → Still P o c d.toNat
section
variable {g : Nat} {rd : Option Nat} {T : List Value} {D : List Nat} {A : Hp} {Q : Ex → St → Prop} {V : Value → Hp → Prop}
theorem loop322c {A0 : Hp} {P : SPar} {H : List Int} {sh sl : Value} {OB X4 : Nat} {w h s wo : Int} {T0 : List Value} (hL : SLine P w h) (hh : RdS A0 1 P.m (ints H) sh) (hX : A0.get X4 = some (.cells [.int .i64 w, .int .i64 h, .int .i64 s, sl] false)) (hg : g ≤ OB) (hO : OB < A0.n) (hhO : ∀ z, blkOf sh = some z → z ≠ OB) (hXO : X4 ≠ OB)
    (hht : ∀ c : Nat, c < P.m → (c : Int) ≠ wo → P.ht c = gi H c) (T1 : tget T0 1 = sh) (T3 : tget T0 3 = .int .i64 wo) (T4 : tget T0 4 = .pointer (some ⟨X4, 0, none⟩)) (T9 : tget T0 9 = rowS1 OB P.m)
    (hQ : ∀ T' A' o', But OB A0 A' → A'.get OB = some (.cells (ints o') false) → RI P o' P.sea → Clo P w h wo o' → tget T' 9 = rowS1 OB P.m → Q (.exit 4) ⟨T', D, A'⟩) :
    ∀ (K : Nat) {T : List Value} {A : Hp} (o : List Int) (fl : Bool), potS o ≤ K → But OB A0 A → A.get OB = some (.cells (ints o) false) → RI P o P.sea → (fl = false → Clo P w h wo o) → tget T 12 = .bool fl → (∀ t, t = 1 ∨ t = 2 ∨ t = 3 ∨ t = 4 ∨ t = 9 → tget T t = tget T0 t) → W AP KL g rd (.loop body322c) ⟨T, D, A⟩ Q := by
  have done : ∀ {T : List Value} {A : Hp} (o : List Int), But OB A0 A → A.get OB = some (.cells (ints o) false) → RI P o P.sea → Clo P w h wo o → tget T 12 = .bool false → (∀ t, t = 1 ∨ t = 2 ∨ t = 3 ∨ t = 4 ∨ t = 9 → tget T t = tget T0 t) → W AP KL g rd (.loop body322c) ⟨T, D, A⟩ Q := by
    intro T A o hb hA hR hC t12 hk
    rw [W_loop]
    simp (disch := as_aux_lemma => first | omega | simp only [hDs] <;> omega | simp [isCell]) [hRs, takeMarks, resA, resAll, resOne, Value.cells, body322c, t12]
    exact hQ _ _ o hb hA hR hC (by have := (hk 9 (by simp)).trans T9; simp [this])
  intro K
  induction K with
  | zero =>
    intro T A o fl hK hb hA hR hC t12 hk
    cases fl with
    | false => exact done o hb hA hR (hC rfl) t12 hk
    | true =>
      have hOA := Hp.lt_of_get hA
      rw [W_loop]
      simp (disch := as_aux_lemma => first | omega | simp only [hDs] <;> omega | simp [isCell]) [hRs, takeMarks, resA, resAll, resOne, Value.cells, body322c, t12]
      refine loop322d (A0 := A) (P := P) (H := H) (o0 := o) (fl0 := false) (sh := sh) (sl := sl) (OB := OB) (X4 := X4) (w := w) (h := h) (s := s) (wo := wo) hL (hh.keepB fun z hz => hb.2 z (hh.blk_lt hz) (hhO z hz)) (by rw [hb.2 _ (Hp.lt_of_get hX) hXO]; exact hX) hg hOA hhO hXO hht (fun T' A' o' fl' hb' hA' hR' hAd t12' hk' => ?_) P.m 0 o false (by omega) (But.of_ext ⟨Nat.le_refl _, fun _ _ => rfl⟩) hA hR (Adv.refl fun c hc => by omega) ?_ (fun t _ => rfl) ?_ ?_ ?_ ?_ ?_
      · rcases hAd with ⟨rfl, rfl, hcl⟩ | ⟨rfl, hlt⟩
        · exact done _ (hb.trans hb') hA' hR' hcl t12' fun t ht => by
            have := hk' t ht
            rcases ht with rfl | rfl | rfl | rfl | rfl <;> simp at this <;> simp [this, hk]
        · omega
      all_goals simp [hk, T1, T3, T4, T9]
  | succ K ih =>
    intro T A o fl hK hb hA hR hC t12 hk
    cases fl with
    | false => exact done o hb hA hR (hC rfl) t12 hk
    | true =>
      have hOA := Hp.lt_of_get hA
      rw [W_loop]
      simp (disch := as_aux_lemma => first | omega | simp only [hDs] <;> omega | simp [isCell]) [hRs, takeMarks, resA, resAll, resOne, Value.cells, body322c, t12]
      refine loop322d (A0 := A) (P := P) (H := H) (o0 := o) (fl0 := false) (sh := sh) (sl := sl) (OB := OB) (X4 := X4) (w := w) (h := h) (s := s) (wo := wo) hL (hh.keepB fun z hz => hb.2 z (hh.blk_lt hz) (hhO z hz)) (by rw [hb.2 _ (Hp.lt_of_get hX) hXO]; exact hX) hg hOA hhO hXO hht (fun T' A' o' fl' hb' hA' hR' hAd t12' hk' => ?_) P.m 0 o false (by omega) (But.of_ext ⟨Nat.le_refl _, fun _ _ => rfl⟩) hA hR (Adv.refl fun c hc => by omega) ?_ (fun t _ => rfl) ?_ ?_ ?_ ?_ ?_
      · have hkk : ∀ t, t = 1 ∨ t = 2 ∨ t = 3 ∨ t = 4 ∨ t = 9 → tget T' t = tget T0 t := fun t ht => by
            have := hk' t ht
            rcases ht with rfl | rfl | rfl | rfl | rfl <;> simp at this <;> simp [this, hk]
        rcases hAd with ⟨rfl, rfl, hcl⟩ | ⟨rfl, hlt⟩
        · exact done _ (hb.trans hb') hA' hR' hcl t12' hkk
        · exact ih o' true (by omega) (hb.trans hb') hA' hR' (fun h => by cases h) t12' hkk
      all_goals simp [hk, T1, T3, T4, T9]
theorem loop322a {A0 : Hp} {sh : Value} {OB m : Nat} {T0 : List Value} (hm : m < 1000000) (hl : lenV sh = some (.int .i64 m)) (hg : g ≤ OB) (hO : OB < A0.n)
    (hQ : ∀ T' A', But OB A0 A' → A'.get OB = some (.cells (ints (List.replicate m 1073741824)) false) → (∀ t, t = 1 ∨ t = 2 ∨ t = 3 ∨ t = 4 ∨ t = 9 → tget T' t = tget T0 t) → Q (.exit 0) ⟨T', D, A'⟩) :
    ∀ (k i : Nat) {T : List Value} {A : Hp} (o : List Int), i + k = m → But OB A0 A → A.get OB = some (.cells (ints o) false) → o.length = m → (∀ j, j < i → gi o j = 1073741824) → (∀ t, t = 1 ∨ t = 2 ∨ t = 3 ∨ t = 4 ∨ t = 9 → tget T t = tget T0 t) → tget T0 1 = sh → tget T0 9 = rowS1 OB m → tget T 10 = .int .i64 i → W AP KL g rd (.loop body322a) ⟨T, D, A⟩ Q := by
  intro k
  induction k with
  | zero =>
    intro i T A o hi hb hA hlo hp hk T1 T9 t10
    have t1 := (hk 1 (by simp)).trans T1
    have : i = m := by omega
    subst this
    rw [W_loop]
    simp (disch := as_aux_lemma => first | omega | simp only [hDs] <;> omega | simp [isCell]) [hRs, takeMarks, resA, resAll, resOne, Value.cells, body322a, t1, t10, hl]
    have ho : o = List.replicate i 1073741824 := list_gi (by simp [hlo]) fun j hj => by rw [hp j (by omega)]; simp [gi, List.getD, show j < i by omega]
    rw [ho] at hA
    exact hQ _ _ hb hA fun t ht => by rcases ht with rfl | rfl | rfl | rfl | rfl <;> simp [hk]
  | succ k ih =>
    intro i T A o hi hb hA hlo hp hk T1 T9 t10
    have t1 := (hk 1 (by simp)).trans T1
    have t9 := (hk 9 (by simp)).trans T9
    unfold rowS1 at t9
    have e5 : wr .i64 ((i : Int) + 1) = ((i + 1 : Nat) : Int) := by rw [wrId (by omega) (by omega)]; simp
    have hOA := Hp.lt_of_get hA
    rw [W_loop]
    simp (disch := as_aux_lemma => first | omega | simp only [hDs] <;> omega | simp [isCell]) [hRs, takeMarks, resA, resAll, resOne, Value.cells, body322a, t1, t9, t10, hl, show ((i : Int) < m) by omega, show i < m by omega, idxSA_ok, hA, hlo, storeB_cells, setRange_intsI, e5]
    refine ih (i + 1) _ (by omega) (hb.trans (But.set hOA ⟨Nat.le_refl _, fun _ _ => rfl⟩)) (get_set_same hA) (by simp [hlo]) (fun j hj => ?_) (fun t ht => ?_) T1 T9 (by simp)
    · rw [gi_setI (by omega)]
      by_cases h : j = i
      · rw [if_pos h]
      · rw [if_neg h]; exact hp j (by omega)
    · rcases ht with rfl | rfl | rfl | rfl | rfl <;> simp [hk]
end
end Go.Ab.Grid
set_option maxRecDepth 100000
namespace Go.Ab.Grid
open Go Go.Ab
section
variable {g : Nat} {rd : Option Nat} {T : List Value} {D : List Nat} {A : Hp} {Q : Ex → St → Prop} {V : Value → Hp → Prop}
theorem loop322b {A0 : Hp} {P : SPar} {H : List Int} {sh sv : Value} {OB : Nat} {wo : Int} {T0 : List Value} (hP : SParOk P) (hh : RdS A0 1 P.m (ints H) sh) (hs : RdS A0 1 P.sea.length (ints (seaI P)) sv) (hsn : P.sea.length < 1000000) (hg : g ≤ OB) (hO : OB < A0.n) (hhO : ∀ z, blkOf sh = some z → z ≠ OB) (hsO : ∀ z, blkOf sv = some z → z ≠ OB)
    (hht : ∀ c : Nat, c < P.m → (c : Int) ≠ wo → P.ht c = gi H c ∧ P.ht c ≤ 2000000) (hbar : ∀ c : Nat, c < P.m → (c : Int) = wo → P.ht c = 1073741824)
    (hQ : ∀ T' A' o, But OB A0 A' → A'.get OB = some (.cells (ints o) false) → RI P o P.sea → (∀ t, t = 1 ∨ t = 2 ∨ t = 3 ∨ t = 4 ∨ t = 9 → tget T' t = tget T0 t) → Q (.exit 2) ⟨T', D, A'⟩) :
    ∀ (k i : Nat) {T : List Value} {A : Hp} (o : List Int), i + k = P.sea.length → But OB A0 A → A.get OB = some (.cells (ints o) false) → RI P o (P.sea.take i) → (∀ t, t = 1 ∨ t = 2 ∨ t = 3 ∨ t = 4 ∨ t = 9 → tget T t = tget T0 t) → tget T0 1 = sh → tget T0 2 = sv → tget T0 3 = .int .i64 wo → tget T0 9 = rowS1 OB P.m → tget T 11 = .int .i64 i → W AP KL g rd (.loop body322b) ⟨T, D, A⟩ Q := by
  intro k
  have ls : (seaI P).length = P.sea.length := by simp [seaI]
  have lH : H.length = P.m := by have := hh.1; simpa using this
  have hls := hs.len
  induction k with
  | zero =>
    intro i T A o hi hb hA hR hk T1 T2 T3 T9 t11
    have t2 := (hk 2 (by simp)).trans T2
    have : i = P.sea.length := by omega
    subst this
    rw [List.take_length] at hR
    rw [W_loop]
    simp (disch := as_aux_lemma => first | omega | simp only [hDs] <;> omega | simp [isCell]) [hRs, takeMarks, resA, resAll, resOne, Value.cells, body322b, t2, t11, hls]
    exact hQ _ _ o hb hA hR fun t ht => by rcases ht with rfl | rfl | rfl | rfl | rfl <;> simp [hk]
  | succ k ih =>
    intro i T A o hi hb hA hR hk T1 T2 T3 T9 t11
    have t1 := (hk 1 (by simp)).trans T1
    have t2 := (hk 2 (by simp)).trans T2
    have t3 := (hk 3 (by simp)).trans T3
    have t9 := (hk 9 (by simp)).trans T9
    unfold rowS1 at t9
    have e5 : wr .i64 ((i : Int) + 1) = ((i + 1 : Nat) : Int) := by rw [wrId (by omega) (by omega)]; simp
    have hOA := Hp.lt_of_get hA
    have hin : P.sea[i] ∈ P.sea := List.getElem_mem _
    have hd := hP.sea _ hin
    obtain ⟨c, hc⟩ : ∃ c, c = P.sea[i] := ⟨_, rfl⟩
    rw [← hc] at hin hd
    have htk : P.sea.take (i + 1) = P.sea.take i ++ [c] := by rw [hc]; simp
    have hgs : gi (seaI P) i = (c : Int) := by rw [seaI_get (by omega), hc]
    obtain ⟨xb, xc, xr, rfl, hxb⟩ := (hs.keepB (A' := A) fun z hz => hb.2 z (hs.blk_lt hz) (hsO z hz)).at (show i < P.sea.length by omega)
    have hlo := hR.len
    rw [W_loop]
    by_cases hw : (c : Int) = wo
    · simp (disch := as_aux_lemma => first | omega | simp only [hDs] <;> omega | simp [isCell]) [hRs, takeMarks, resA, resAll, resOne, Value.cells, body322b, t1, t2, t3, t9, t11, hls, show ((i : Int) < P.sea.length) by omega, show i < P.sea.length by omega, idxSA_ok, hxb, ints_get, ls, hgs, hw, e5]
      refine ih (i + 1) o (by omega) hb hA (by rw [htk]; exact hR.seaBar hd (hbar c hd hw)) (fun t ht => ?_) T1 T2 T3 T9 (by simp)
      rcases ht with rfl | rfl | rfl | rfl | rfl <;> simp [hk]
    · obtain ⟨yb, yc, yr, rfl, hyb⟩ := (hh.keepB (A' := A) fun z hz => hb.2 z (hh.blk_lt hz) (hhO z hz)).at hd
      obtain ⟨p1, p2⟩ := hht c hd hw
      have hR' := hR.seaOne hP hin p2
      rw [p1] at hR'
      simp (disch := as_aux_lemma => first | omega | simp only [hDs] <;> omega | simp [isCell]) [hRs, takeMarks, resA, resAll, resOne, Value.cells, body322b, t1, t2, t3, t9, t11, hls, show ((i : Int) < P.sea.length) by omega, show i < P.sea.length by omega, idxSA_ok, hxb, hyb, ints_get, ls, lH, hgs, hw, hd, hA, hlo, storeB_cells, setRange_intsI, e5]
      refine ih (i + 1) _ (by omega) (hb.trans (But.set hOA ⟨Nat.le_refl _, fun _ _ => rfl⟩)) (get_set_same hA) (by rw [htk]; exact hR') (fun t ht => ?_) T1 T2 T3 T9 (by simp)
      rcases ht with rfl | rfl | rfl | rfl | rfl <;> simp [hk]
theorem w322 {P : SPar} {w h s wo : Int} {H : List Int} {sl sh sv : Value} (hL : SLine P w h) (hh : RdS A 1 P.m (ints H) sh) (hs : RdS A 1 P.sea.length (ints (seaI P)) sv) (hsn : P.sea.length < 1000000) (hg : g ≤ A.n)
    (hht : ∀ c : Nat, c < P.m → (c : Int) ≠ wo → P.ht c = gi H c ∧ P.ht c ≤ 2000000) (hbar : ∀ c : Nat, c < P.m → (c : Int) = wo → P.ht c = 1073741824)
    (hV : ∀ A' o OB, SFin P o → Ext' A A' → A.n ≤ OB → A'.get OB = some (.cells (ints o) false) → V (rowS1 OB P.m) A') : WF AP KL g 322 [gridV w h s sl, sh, sv, .int .i64 wo] A V := by
  rw [WF_body (show KL 322 = none from rfl) (show AP 322 = some F322 from rfl)]
  have hm60 := hL.m
  have hlh := hh.len
  obtain ⟨B, hB⟩ : ∃ B, B = A.push (.cells [.int .i64 w, .int .i64 h, .int .i64 s, sl] false) := ⟨_, rfl⟩
  have eB : Ext' A B := by rw [hB]; exact Ext'.push _ _
  have nB : B.n = A.n + 1 := by rw [hB]; rfl
  have b4 : B.get A.n = some (.cells [.int .i64 w, .int .i64 h, .int .i64 s, sl] false) := by rw [hB]; exact get_push_new
  simp (disch := as_aux_lemma => first | omega | simp only [hDs] <;> omega | simp [isCell]) [hRs, takeMarks, resA, resAll, resOne, Value.cells, F322, gridV, ← hB, hlh, makeS_ok (n := P.m) (by omega)]
  obtain ⟨C, hC⟩ : ∃ C, C = B.push (.cells (ints (List.replicate P.m 0)) false) := ⟨_, rfl⟩
  rw [← hC]
  have eC : Ext' B C := by rw [hC]; exact Ext'.push _ _
  have nC : C.n = B.n + 1 := by rw [hC]; rfl
  have cO : C.get B.n = some (.cells (ints (List.replicate P.m 0)) false) := by rw [hC]; exact get_push_new
  have e0 := eB.trans eC
  have hhO : ∀ z, blkOf sh = some z → z ≠ B.n := fun z hz => by have := hh.blk_lt hz; omega
  have hsO : ∀ z, blkOf sv = some z → z ≠ B.n := fun z hz => by have := hs.blk_lt hz; omega
  refine loop322a (A0 := C) (sh := sh) (OB := B.n) (m := P.m) (by omega) hlh (by omega) (by omega) (fun T1 A1 hb1 h1 hk1 => ?_) P.m 0 (List.replicate P.m 0) (by omega) (But.of_ext ⟨Nat.le_refl _, fun _ _ => rfl⟩) cO (by simp) (fun j hj => by omega) (fun t _ => rfl) ?_ ?_ ?_
  · have u1 := hk1 1 (by simp)
    have u2 := hk1 2 (by simp)
    have u3 := hk1 3 (by simp)
    have u4 := hk1 4 (by simp)
    have u9 := hk1 9 (by simp)
    simp at u1 u2 u3 u4 u9
    have n1 := hb1.1
    simp (disch := as_aux_lemma => first | omega | simp only [hDs] <;> omega | simp [isCell]) [hRs, takeMarks, resA, resAll, resOne, Value.cells]
    refine loop322b (A0 := A1) (P := P) (H := H) (sh := sh) (sv := sv) (OB := B.n) (wo := wo) (T0 := tset T1 11 (.int .i64 0)) hL.ok ((e0.rdS hh).keepB fun z hz => hb1.2 z (by have := hh.blk_lt hz; omega) (hhO z hz)) ((e0.rdS hs).keepB fun z hz => hb1.2 z (by have := hs.blk_lt hz; omega) (hsO z hz)) hsn (by omega) (by omega) hhO hsO hht hbar (fun T2 A2 o hb2 h2 hR hk2 => ?_) P.sea.length 0 (List.replicate P.m 1073741824) (by omega) (But.of_ext ⟨Nat.le_refl _, fun _ _ => rfl⟩) h1 (by rw [List.take_zero]; exact RI.start) (fun t _ => rfl) ?_ ?_ ?_ ?_ ?_
    · have v1 := hk2 1 (by simp)
      have v3 := hk2 3 (by simp)
      have v4 := hk2 4 (by simp)
      have v9 := hk2 9 (by simp)
      simp [u1, u3, u4, u9] at v1 v3 v4 v9
      have n2 := hb2.1
      have hb12 := hb1.trans hb2
      simp (disch := as_aux_lemma => first | omega | simp only [hDs] <;> omega | simp [isCell]) [hRs, takeMarks, resA, resAll, resOne, Value.cells]
      refine loop322c (A0 := A2) (P := P) (H := H) (sh := sh) (sl := sl) (OB := B.n) (X4 := A.n) (w := w) (h := h) (s := s) (wo := wo) (T0 := tset T2 12 (.bool true)) hL ((e0.rdS hh).keepB fun z hz => hb12.2 z (by have := hh.blk_lt hz; omega) (hhO z hz)) (by rw [hb12.2 _ (by omega) (by omega)]; exact eC.get b4) (by omega) (by omega) hhO (by omega) (fun c hc hcw => (hht c hc hcw).1) ?_ ?_ ?_ ?_ (fun T3 A3 o' hb3 h3 hR' hC' t9 => ?_) (potS o) o true (Nat.le_refl _) (But.of_ext ⟨Nat.le_refl _, fun _ _ => rfl⟩) h2 hR (fun h => by cases h) ?_ (fun t _ => rfl)
      · simp [v1]
      · simp [v3]
      · simp [v4]
      · simp [v9, rowS1]
      · simp (disch := as_aux_lemma => first | omega | simp only [hDs] <;> omega | simp [isCell]) [hRs, takeMarks, resA, resAll, resOne, Value.cells, t9]
        have hball := hb12.trans hb3
        have n3 := hb3.1
        refine hV A3 o' B.n (hR'.fin (fun c hc d hcd hd => ?_) hL.ok) ⟨by omega, fun z hz => by rw [hball.2 z (by omega) (by omega), e0.2 z hz]⟩ (by omega) h3
        by_cases hcw : (c : Int) = wo
        · have := hbar c hc hcw
          have := (hR'.le c hc).2
          unfold noneV at this
          unfold Still
          omega
        · have hw := hL.wr
          have hwh := hL.wh
          rw [hL.nb d hd] at hcd
          obtain ⟨x, hx, hxc⟩ := List.mem_map.1 hcd
          obtain ⟨⟨q1, q2⟩, q3⟩ := nbrs_symm hw.1 (show 0 ≤ (d : Int) ∧ (d : Int) < w * h by omega) hx
          have hxc' : x = (c : Int) := by omega
          rw [hxc'] at q3
          have := hC' c hc hcw (d : Int) q3
          rwa [Int.toNat_natCast] at this
      · simp
    all_goals simp [u1, u2, u3, u9, rowS1]
  all_goals simp [rowS1]
end
end Go.Ab.Grid
set_option maxRecDepth 100000
namespace Go.Ab.Grid
open Go Go.Ab
section
variable {g : Nat} {rd : Option Nat} {T : List Value} {D : List Nat} {A : Hp} {Q : Ex → St → Prop} {V : Value → Hp → Prop}
theorem loop293 {N X1 X2 m : Nat} {A0 : Hp} {lo up : List Int} (hm : m < 1000000) (hl1 : lo.length = m) (hl2 : up.length = m) (h1 : A0.get X1 = some (.cells (ints lo) false)) (h2 : A0.get X2 = some (.cells (ints up) false)) (hN : A0.n = N) (hg : g ≤ N)
    (hQ : ∀ T' A' sv, tget T' 9 = sv → AccS N A' 2 (ints (pairI lo up m)) sv → Ext' A0 A' → Q (.exit 0) ⟨T', D, A'⟩) :
    ∀ (k i : Nat) {T : List Value} {A : Hp} {sv : Value}, i + k = m → tget T 7 = rowS1 X1 m → tget T 8 = rowS1 X2 m → tget T 9 = sv → tget T 10 = .int .i64 i → AccS N A 2 (ints (pairI lo up i)) sv → Ext' A0 A → W AP KL g rd (.loop body293) ⟨T, D, A⟩ Q := by
  intro k
  induction k with
  | zero =>
    intro i T A sv hik t7 t8 t9 t10 hacc he
    have : i = m := by omega
    subst this
    unfold rowS1 at t7
    rw [W_loop]
    simp (disch := as_aux_lemma => first | omega | simp only [hDs] <;> omega | simp [isCell]) [hRs, takeMarks, resA, resAll, resOne, Value.cells, body293, t7, t10]
    exact hQ _ A sv (by simp [t9]) hacc he
  | succ k ih =>
    intro i T A sv hik t7 t8 t9 t10 hacc he
    unfold rowS1 at t7 t8
    have e3 : wr .i64 ((i : Int) + 1) = ((i + 1 : Nat) : Int) := by rw [wrId (by omega) (by omega)]; simp
    have hn := he.1
    obtain ⟨sv', A1, a1, a2, a3, a4⟩ := append_acc (g := g) (bytes := 16) (y := A.n) (A := A.push (.cells [.int .i64 (gi lo i), .int .i64 (gi up i)] false)) (new := [.int .i64 (gi lo i), .int .i64 (gi up i)]) (ro := false) (n := i) (hacc.mono (Ext'.push A _).2) (by omega) (by simp; omega) get_push_new rfl (by decide) rfl (by rw [ints_length, pairI_len]) (by unfold room; omega)
    rw [show ints (pairI lo up i) ++ [.int .i64 (gi lo i), .int .i64 (gi up i)] = ints (pairI lo up (i + 1)) by rw [pairI_succ, ints_append]; rfl] at a2
    rw [W_loop]
    simp (disch := as_aux_lemma => first | omega | simp only [hDs] <;> omega | simp [isCell]) [hRs, takeMarks, resA, resAll, resOne, Value.cells, body293, t7, t8, t9, t10, show ((i : Int) < m) by omega, show i < m by omega, idxSA_ok, he.get h1, he.get h2, ints_get, hl1, hl2, fillA, setRange, slitA, show zeros 1 [Value.int .i64 0, .int .i64 0] = [.int .i64 0, .int .i64 0] from rfl, a1, e3]
    refine ih (i + 1) (sv := sv') (by omega) (by simp [t7, rowS1]) (by simp [t8, rowS1]) (by simp) (by simp) a2 ⟨by rw [a4]; simp; omega, fun z hz => by rw [a3 z (by omega), get_push_old (by omega), he.2 z hz]⟩
theorem w293 {w h s : Int} {zs : List Int} {sl sv0 : Value} {m n : Nat} {cs : List Int} (hm60 : m ≤ 60) (hn : n < 1000000) (hz : RdS A 1 n (ints cs) sv0) (hsl : RdS A 2 m (ints zs) sl) (hg : g ≤ A.n)
    (hV : ∀ A' sv e, Ext' A A' → SillV A' w h s m zs n cs A.n sv e → V (.tuple ⟨[sv, .int .i64 e]⟩) A') : WF AP KL g 293 [gridV w h s sl, sv0] A V := by
  rw [WF_body (show KL 293 = none from rfl) (show AP 293 = some F293 from rfl)]
  have hcl : cs.length = n := by have := hz.1; simpa using this
  obtain ⟨B, hB⟩ : ∃ B, B = A.push (.cells [.int .i64 w, .int .i64 h, .int .i64 s, sl] false) := ⟨_, rfl⟩
  have eB : Ext' A B := by rw [hB]; exact Ext'.push _ _
  have nB : B.n = A.n + 1 := by rw [hB]; rfl
  have b2 : B.get A.n = some (.cells [.int .i64 w, .int .i64 h, .int .i64 s, sl] false) := by rw [hB]; exact get_push_new
  simp (disch := as_aux_lemma => first | omega | simp only [hDs] <;> omega | simp [isCell]) [hRs, takeMarks, resA, resAll, resOne, Value.cells, F293, gridV, ← hB, b2]
  refine w321 (by omega) hn (eB.rdS hz) (eB.rdS hsl) (by omega) fun A1 e1 => ?_
  have n1 := e1.1
  have e01 := eB.trans e1
  by_cases h0 : seaE w h s m zs n cs = 0
  · obtain ⟨hE, hn0, hsea, hcast⟩ := seaE_zero hcl h0
    obtain ⟨_, _, _, gv⟩ := gridE_parts hE
    have hsl' : (seaN cs).length = n := by simp [seaN, hcl]
    have hsI : ∀ (up : Bool) {A'' : Hp}, Ext' A A'' → RdS A'' 1 (sPar up none w h m zs (seaN cs)).sea.length (ints (seaI (sPar up none w h m zs (seaN cs)))) sv0 := fun up A'' e => by
      show RdS A'' 1 (seaN cs).length (ints (castS (seaN cs))) sv0
      rw [hsl', hcast]; exact e.rdS hz
    have hht : ∀ (up : Bool) (c : Nat), c < m → (sPar up none w h m zs (seaN cs)).ht c = gi (terI up zs m) c ∧ (sPar up none w h m zs (seaN cs)).ht c ≤ 2000000 := fun up c hc => by
      have := gv c hc
      rw [terI_get hc]
      show (if some c = none then 1073741824 else gi zs (c * 2 + upN up)) = _ ∧ (if some c = none then 1073741824 else gi zs (c * 2 + upN up)) ≤ _
      rw [if_neg (by simp)]
      cases up
      · exact ⟨rfl, by show gi zs (c * 2) ≤ _; omega⟩
      · exact ⟨rfl, by show gi zs (c * 2 + 1) ≤ _; omega⟩
    simp (disch := as_aux_lemma => first | omega | simp only [hDs] <;> omega | simp [isCell]) [hRs, takeMarks, resA, resAll, resOne, Value.cells, h0, e1.get b2]
    refine w323 (up := false) (by omega) (e01.rdS hsl) (Nat.le_refl _) fun A2 s1 e2 hacc1 => ?_
    obtain ⟨k1, r1⟩ := hacc1.rdS
    have hk1 : k1 = m := by have := r1.1; simp [terI_len] at this; omega
    subst hk1
    have n2 := e2.1
    simp (disch := as_aux_lemma => first | omega | simp only [hDs] <;> omega | simp [isCell]) [hRs, takeMarks, resA, resAll, resOne, Value.cells, (e1.trans e2).get b2]
    refine w322 (P := sPar false none w h k1 zs (seaN cs)) (wo := -1) (s := s) (sPar_line (up := false) (s := s) hE hm60 hsea) r1 (hsI false (e01.trans e2)) (by show (seaN cs).length < _; omega) (Nat.le_refl _) (fun c hc _ => hht false c hc) (fun c hc hcw => by omega) fun A3 lo OB1 f1 e3 hO1 g1 => ?_
    have n3 := e3.1
    have e03 := (e01.trans e2).trans e3
    simp (disch := as_aux_lemma => first | omega | simp only [hDs] <;> omega | simp [isCell]) [hRs, takeMarks, resA, resAll, resOne, Value.cells, ((e1.trans e2).trans e3).get b2]
    refine w323 (up := true) (by omega) (e03.rdS hsl) (Nat.le_refl _) fun A4 s2 e4 hacc2 => ?_
    obtain ⟨k2, r2⟩ := hacc2.rdS
    have hk2 : k2 = k1 := by have := r2.1; simp [terI_len] at this; omega
    subst hk2
    have n4 := e4.1
    simp (disch := as_aux_lemma => first | omega | simp only [hDs] <;> omega | simp [isCell]) [hRs, takeMarks, resA, resAll, resOne, Value.cells, (((e1.trans e2).trans e3).trans e4).get b2]
    refine w322 (P := sPar true none w h k2 zs (seaN cs)) (wo := -1) (s := s) (sPar_line (up := true) (s := s) hE hm60 hsea) r2 (hsI true (e03.trans e4)) (by show (seaN cs).length < _; omega) (by omega) (fun c hc _ => hht true c hc) (fun c hc hcw => by omega) fun A5 up OB2 f2 e5 hO2 g2 => ?_
    have n5 := e5.1
    simp (disch := as_aux_lemma => first | omega | simp only [hDs] <;> omega | simp [isCell]) [hRs, takeMarks, resA, resAll, resOne, Value.cells]
    refine loop293 (A0 := A5) (N := A5.n) (X1 := OB1) (X2 := OB2) (m := k2) (lo := lo) (up := up) (by omega) f1.len f2.len ((e4.trans e5).get g1) g2 rfl (by omega) (fun T' A6 sv t9 hacc e6 => ?_) k2 0 (sv := .slice none 0 0) (by omega) ?_ ?_ ?_ ?_ ?_ (Ext'.refl _)
    · simp (disch := as_aux_lemma => first | omega | simp only [hDs] <;> omega | simp [isCell]) [hRs, takeMarks, resA, resAll, resOne, Value.cells, t9]
      refine hV A6 sv 0 ((e03.trans (e4.trans e5)).trans e6) ⟨h0.symm, ?_⟩
      rw [if_pos rfl]
      exact ⟨lo, up, f1, f2, hacc.rd (by rw [ints_length, pairI_len]) (by decide), fun b hb => by have := (hacc.blk_ge hb).1; omega⟩
    · simp; rfl
    · simp; rfl
    · simp
    · simp
    · simp [pairI, ints]; exact AccS.nil
  · simp (disch := as_aux_lemma => first | omega | simp only [hDs] <;> omega | simp [isCell]) [hRs, takeMarks, resA, resAll, resOne, Value.cells, h0]
    refine hV A1 _ _ e01 ⟨rfl, ?_⟩
    rw [if_neg h0]
end
end Go.Ab.Grid
set_option maxRecDepth 100000
namespace Go.Ab.Grid
open Go Go.Ab
section
variable {g : Nat} {rd : Option Nat} {T : List Value} {D : List Nat} {A : Hp} {Q : Ex → St → Prop} {V : Value → Hp → Prop}
theorem loop295 {N X5 m : Nat} {A0 : Hp} {rs : List Int} {sl : Value} {a b : Int} (hm : m < 1000000) (hsl : RdS A0 2 m (ints rs) sl) (hX5 : A0.get X5 = some (.cells [.int .i64 a, .int .i64 b] false)) (hN : A0.n = N) (hg : g ≤ N)
    (hQ : ∀ T' A' s6 s7, tget T' 11 = s6 → tget T' 12 = s7 → AccS N A' 1 (bools (flS a rs 1 m)) s6 → AccS N A' 1 (bools (flS b rs 0 m)) s7 → Ext' A0 A' → Q (.exit 0) ⟨T', D, A'⟩) :
    ∀ (k i : Nat) {T : List Value} {A : Hp} {s6 s7 : Value}, i + k = m → tget T 5 = .pointer (some ⟨X5, 0, none⟩) → tget T 9 = sl → tget T 11 = s6 → tget T 12 = s7 → tget T 13 = .int .i64 i → AccS N A 1 (bools (flS a rs 1 i)) s6 → AccS N A 1 (bools (flS b rs 0 i)) s7 → (∀ z, blkOf s6 = some z → blkOf s7 ≠ some z) → Ext' A0 A → W AP KL g rd (.loop body295) ⟨T, D, A⟩ Q := by
  intro k
  have hl := hsl.len
  have hll := hsl.1
  rw [ints_length] at hll
  have hx5n := Hp.lt_of_get hX5
  induction k with
  | zero =>
    intro i T A s6 s7 hik t5 t9 t11 t12 t13 h6 h7 hd he
    have : i = m := by omega
    subst this
    rw [W_loop]
    simp (disch := as_aux_lemma => first | omega | simp only [hDs] <;> omega | simp [isCell]) [hRs, takeMarks, resA, resAll, resOne, Value.cells, body295, t9, t13, hl]
    exact hQ _ A s6 s7 (by simp [t11]) (by simp [t12]) h6 h7 he
  | succ k ih =>
    intro i T A s6 s7 hik t5 t9 t11 t12 t13 h6 h7 hd he
    obtain ⟨x, c, ro, rfl, hx⟩ := hsl.at (i := i) (by omega)
    have hxn := Hp.lt_of_get hx
    have e3 : wr .i64 ((i : Int) + 1) = ((i + 1 : Nat) : Int) := by rw [wrId (by omega) (by omega)]; simp
    have hn := he.1
    obtain ⟨s6', A2, ha, acc2, hold2, hn2, hb2⟩ := add_keep (g := g) (bytes := 1) (n := i) (ro := false) (new := [.bool (decide (gi rs (i * 2 + 1) < a))]) h6 hg (by omega) rfl (by decide) rfl (by rw [flS_len]; omega) (by unfold room; omega)
    have hX52 : A2.get X5 = some (.cells [.int .i64 a, .int .i64 b] false) := by rw [hold2 X5 (by omega) (fun h => by have := (h6.blk_ge h).1; omega)]; exact he.get hX5
    have hx2 : A2.get x = some (.cells (ints rs) ro) := by rw [hold2 x (by omega) (fun h => by have := (h6.blk_ge h).1; omega)]; exact he.get hx
    have acc7 : AccS N A2 1 (bools (flS b rs 0 i)) s7 := AccS.keepB h7 fun z hz => hold2 z (h7.blk_ge hz).2 fun h => hd z h hz
    obtain ⟨s7', A3, ha3, acc3, hold3, hn3, hb3⟩ := add_keep (g := g) (bytes := 1) (n := i) (ro := false) (new := [.bool (decide (gi rs (i * 2) < b))]) acc7 hg (by omega) rfl (by decide) rfl (by rw [flS_len]; omega) (by unfold room; omega)
    have acc6 : AccS N A3 1 (bools (flS a rs 1 i) ++ [.bool (decide (gi rs (i * 2 + 1) < a))]) s6' := AccS.keepB acc2 fun z hz => hold3 z (acc2.blk_ge hz).2 fun h => by
      have q1 := Option.some.inj (hb2.symm.trans hz)
      have := (h7.blk_ge h).2
      omega
    rw [W_loop]
    simp (disch := as_aux_lemma => first | omega | simp only [hDs] <;> omega | simp [isCell]) [hRs, takeMarks, resA, resAll, resOne, Value.cells, body295, t5, t9, t11, t12, t13, hl, show (i : Int) < m by omega, show i < m by omega, idxSA_ok, he.get hx, he.get hX5, ints_get, hll, slitA, fillA, setRange, zeros, ha, hX52, hx2, ha3, e3]
    refine ih (i + 1) (s6 := s6') (s7 := s7') (by omega) (by simp [t5]) (by simp [t9]) (by simp) (by simp) (by simp) (by rw [flS_succ]; exact acc6) (by rw [flS_succ]; exact acc3) (fun z hz h => ?_) ⟨by omega, fun z hz => ?_⟩
    · have q1 := Option.some.inj (hb2.symm.trans hz)
      have q2 := Option.some.inj (hb3.symm.trans h)
      have := (acc2.blk_ge hb2).2
      omega
    · rw [hold3 z (by omega) (fun h => by have := (h7.blk_ge h).1; omega), hold2 z (by omega) (fun h => by have := (h6.blk_ge h).1; omega), he.2 z hz]
theorem w295 {w h s : Int} {zs : List Int} {sl sv0 : Value} {m n : Nat} {cs : List Int} {a b : Int} (hm60 : m ≤ 60) (hn : n < 1000000) (hz : RdS A 1 n (ints cs) sv0) (hsl : RdS A 2 m (ints zs) sl) (hg : g ≤ A.n)
    (hV : ∀ A' s6 s7 e, Ext' A A' → FloodV A' w h s m zs n cs a b A.n s6 s7 e → V (.tuple ⟨[s6, s7, .int .i64 e]⟩) A') :
    WF AP KL g 295 [gridV w h s sl, sv0, .agg ⟨[.int .i64 a, .int .i64 b]⟩] A V := by
  rw [WF_body (show KL 295 = none from rfl) (show AP 295 = some F295 from rfl)]
  obtain ⟨B, hB⟩ : ∃ B, B = (A.push (.cells [.int .i64 w, .int .i64 h, .int .i64 s, sl] false)).push (.cells [.int .i64 a, .int .i64 b] false) := ⟨_, rfl⟩
  have eB : Ext' A B := by rw [hB]; exact (Ext'.push A _).trans (Ext'.push _ _)
  have hBn : B.n = A.n + 2 := by rw [hB]; rfl
  have hX : B.get A.n = some (.cells [.int .i64 w, .int .i64 h, .int .i64 s, sl] false) := by rw [hB, get_push_old (by simp), get_push_new]
  have hS : B.get (A.n + 1) = some (.cells [.int .i64 a, .int .i64 b] false) := by rw [hB, get_push_eq (by simp)]
  simp (disch := as_aux_lemma => first | omega | simp only [hDs] <;> omega | simp [isCell]) [hRs, takeMarks, resA, resAll, resOne, Value.cells, F295, gridV, ← hB, hX]
  refine w293 (s := s) (zs := zs) (cs := cs) hm60 hn (eB.rdS hz) (eB.rdS hsl) (by omega) fun A1 sv e k3 hs => ?_
  have n1 := k3.1
  obtain ⟨he, hs⟩ := hs
  by_cases h0 : e = 0
  · subst h0
    rw [if_pos rfl] at hs
    obtain ⟨lo, up, k1, k2, k4, k5⟩ := hs
    have hl4 := k4.len
    have bad : validB a b (-20000) 20000 = false → V (.tuple ⟨[.slice none 0 0, .slice none 0 0, .int .i64 3]⟩) A1 := fun hab => by
      refine hV A1 _ _ 3 (eB.trans k3) ⟨?_, ?_⟩
      · rw [floodE, if_pos he.symm, hab]; rfl
      · rw [if_neg (by decide)]; exact ⟨rfl, rfl⟩
    by_cases hab1 : b < a
    · simp (disch := as_aux_lemma => first | omega | simp only [hDs] <;> omega | simp [isCell]) [hRs, takeMarks, resA, resAll, resOne, Value.cells, k3.get hS, hab1]
      exact bad (by simp [validB]; omega)
    · by_cases hab2 : a < -20000
      · simp (disch := as_aux_lemma => first | omega | simp only [hDs] <;> omega | simp [isCell]) [hRs, takeMarks, resA, resAll, resOne, Value.cells, k3.get hS, hab1, hab2]
        exact bad (by simp [validB]; omega)
      · by_cases hab3 : (20000 : Int) < b
        · simp (disch := as_aux_lemma => first | omega | simp only [hDs] <;> omega | simp [isCell]) [hRs, takeMarks, resA, resAll, resOne, Value.cells, k3.get hS, hab1, hab2, hab3]
          exact bad (by simp [validB]; omega)
        · have hab : validB a b (-20000) 20000 = true := by simp [validB]; omega
          simp (disch := as_aux_lemma => first | omega | simp only [hDs] <;> omega | simp [isCell]) [hRs, takeMarks, resA, resAll, resOne, Value.cells, k3.get hS, hab1, hab2, hab3]
          refine loop295 (N := A1.n) (X5 := A.n + 1) (A0 := A1) (rs := pairI lo up m) (sl := sv) (a := a) (b := b) (m := m) (by omega) k4 (k3.get hS) rfl (by omega) (fun T' A3 s6 s7 t6 t7 h6 h7 he' => ?_) m 0 (s6 := .slice none 0 0) (s7 := .slice none 0 0) (by omega) ?_ ?_ ?_ ?_ ?_ ?_ ?_ (fun _ h => by cases h) (Ext'.refl _)
          · simp (disch := as_aux_lemma => first | omega | simp only [hDs] <;> omega | simp [isCell]) [hRs, takeMarks, resA, resAll, resOne, Value.cells, t6, t7]
            refine hV A3 s6 s7 0 (eB.trans (k3.trans he')) ⟨?_, ?_⟩
            · rw [floodE, if_pos he.symm, if_pos hab]
            · rw [if_pos rfl]
              exact ⟨lo, up, k1, k2, h6.rd (by rw [flS_len]; omega) (by decide), h7.rd (by rw [flS_len]; omega) (by decide), fun y hy => by have := (h6.blk_ge hy).1; omega, fun y hy => by have := (h7.blk_ge hy).1; omega⟩
          · simp
          · simp
          · simp
          · simp
          · simp
          · exact .inl ⟨rfl, rfl⟩
          · exact .inl ⟨rfl, rfl⟩
  · rw [if_neg h0] at hs
    subst hs
    simp (disch := as_aux_lemma => first | omega | simp only [hDs] <;> omega | simp [isCell]) [hRs, takeMarks, resA, resAll, resOne, Value.cells, h0]
    refine hV A1 _ _ e (eB.trans k3) ⟨?_, ?_⟩
    · rw [floodE, if_neg (by rw [← he]; exact h0)]; exact he
    · rw [if_neg h0]; exact ⟨rfl, rfl⟩
end
end Go.Ab.Grid
set_option maxRecDepth 100000
namespace Go.Ab.Grid
open Go Go.Ab
section
variable {g : Nat} {rd : Option Nat} {T : List Value} {D : List Nat} {A : Hp} {Q : Ex → St → Prop} {V : Value → Hp → Prop}
theorem loop325a {n : Nat} {cs : List Int} {sv : Value} {x : Int} {T0 : List Value} (hs : RdS A 1 n (ints cs) sv) (hn : n < 1000000)
    (hQ : ∀ T', x ∉ cs → (∀ t, t = 1 ∨ t = 2 ∨ t = 3 ∨ t = 4 → tget T' t = tget T0 t) → Q (.exit 0) ⟨T', D, A⟩) (hR : ∀ T', x ∈ cs → tget T' 8 = .int .i64 0 → Q .ret ⟨T', D, A⟩) :
    ∀ (k i : Nat) {T : List Value}, i + k = n → (∀ j, j < i → gi cs j ≠ x) → (∀ t, t = 1 ∨ t = 2 ∨ t = 3 ∨ t = 4 → tget T t = tget T0 t) → tget T0 2 = sv → tget T0 3 = .int .i64 x → tget T 9 = .int .i64 i → W AP KL g rd (.loop body325a) ⟨T, D, A⟩ Q := by
  intro k
  have lc : cs.length = n := by have := hs.1; simpa using this
  have hl := hs.len
  induction k with
  | zero =>
    intro i T hi hp hk T2 T3 t9
    have t2 := (hk 2 (by simp)).trans T2
    rw [W_loop]
    simp (disch := as_aux_lemma => first | omega | simp only [hDs] <;> omega | simp [isCell]) [hRs, takeMarks, resA, resAll, resOne, Value.cells, body325a, t2, t9, hl, show ¬ ((i : Int) < n) by omega]
    refine hQ _ (fun hx => ?_) fun t ht => by rcases ht with rfl | rfl | rfl | rfl <;> simp [hk]
    obtain ⟨j, hj, rfl⟩ := List.getElem_of_mem hx
    exact hp j (by omega) (gi_eq hj)
  | succ k ih =>
    intro i T hi hp hk T2 T3 t9
    have t2 := (hk 2 (by simp)).trans T2
    have t3 := (hk 3 (by simp)).trans T3
    have e5 : wr .i64 ((i : Int) + 1) = ((i + 1 : Nat) : Int) := by rw [wrId (by omega) (by omega)]; simp
    obtain ⟨xb, xc, xr, rfl, hxb⟩ := hs.at (show i < n by omega)
    rw [W_loop]
    by_cases he : gi cs i = x
    · have hm : x ∈ cs := by rw [← he, gi_eq (show i < cs.length by omega)]; exact List.getElem_mem _
      simp (disch := as_aux_lemma => first | omega | simp only [hDs] <;> omega | simp [isCell]) [hRs, takeMarks, resA, resAll, resOne, Value.cells, body325a, t2, t3, t9, hl, show ((i : Int) < n) by omega, show i < n by omega, idxSA_ok, hxb, ints_get, lc, he]
      exact hR _ hm (by simp)
    · simp (disch := as_aux_lemma => first | omega | simp only [hDs] <;> omega | simp [isCell]) [hRs, takeMarks, resA, resAll, resOne, Value.cells, body325a, t2, t3, t9, hl, show ((i : Int) < n) by omega, show i < n by omega, idxSA_ok, hxb, ints_get, lc, he, e5]
      refine ih (i + 1) (by omega) (fun j hj => ?_) (fun t ht => ?_) T2 T3 (by simp)
      · by_cases h : j = i
        · rw [h]; exact he
        · exact hp j (by omega)
      · rcases ht with rfl | rfl | rfl | rfl <;> simp [hk]
theorem loop325b {nn m OB : Nat} {l o : List Int} {sn : Value} {T0 : List Value} (hs : RdS A 1 nn (ints l) sn) (hn : nn < 1000000) (ho : A.get OB = some (.cells (ints o) false)) (hlo : o.length = m) (hl : ∀ d, d ∈ l → 0 ≤ d ∧ d < m)
    (hQ : ∀ T', tget T' 11 = .int .i64 (leastL o l) → (∀ t, t = 1 ∨ t = 3 → tget T' t = tget T0 t) → Q (.exit 2) ⟨T', D, A⟩) :
    ∀ (k i : Nat) {T : List Value}, i + k = nn → tget T 11 = .int .i64 (leastL o (l.take i)) → (∀ t, t = 1 ∨ t = 3 → tget T t = tget T0 t) → tget T 10 = rowS1 OB m → tget T 12 = sn → tget T 13 = .int .i64 i → W AP KL g rd (.loop body325b) ⟨T, D, A⟩ Q := by
  intro k
  have lc : l.length = nn := by have := hs.1; simpa using this
  have hls := hs.len
  induction k with
  | zero =>
    intro i T hi t11 hk t10 t12 t13
    have : i = nn := by omega
    subst this
    rw [List.take_of_length_le (by omega)] at t11
    rw [W_loop]
    simp (disch := as_aux_lemma => first | omega | simp only [hDs] <;> omega | simp [isCell]) [hRs, takeMarks, resA, resAll, resOne, Value.cells, body325b, t12, t13, hls]
    exact hQ _ (by simp [t11]) fun t ht => by rcases ht with rfl | rfl <;> simp [hk]
  | succ k ih =>
    intro i T hi t11 hk t10 t12 t13
    unfold rowS1 at t10
    have e5 : wr .i64 ((i : Int) + 1) = ((i + 1 : Nat) : Int) := by rw [wrId (by omega) (by omega)]; simp
    obtain ⟨xb, xc, xr, rfl, hxb⟩ := hs.at (show i < nn by omega)
    have hin : gi l i ∈ l := by rw [gi_eq (show i < l.length by omega)]; exact List.getElem_mem _
    obtain ⟨d0, d1⟩ := hl _ hin
    obtain ⟨d, hd⟩ : ∃ d : Nat, gi l i = (d : Int) := ⟨(gi l i).toNat, by omega⟩
    have hdm : d < m := by omega
    have htk : leastL o (l.take (i + 1)) = min (leastL o (l.take i)) (gi o d) := by
      rw [List.take_succ_eq_append_getElem (by omega), leastL_snoc, ← gi_eq (show i < l.length by omega), hd, Int.toNat_natCast]
    rw [W_loop]
    simp (disch := as_aux_lemma => first | omega | simp only [hDs] <;> omega | simp [isCell]) [hRs, takeMarks, resA, resAll, resOne, Value.cells, body325b, t10, t11, t12, t13, hls, show ((i : Int) < nn) by omega, show i < nn by omega, idxSA_ok, hxb, ints_get, lc, hd, ho, hlo, hdm, e5]
    refine ih (i + 1) (by omega) (by simp [htk]) (fun t ht => ?_) (by simp [t10, rowS1]) (by simp [t12]) (by simp)
    rcases ht with rfl | rfl <;> simp [hk]
theorem w325 {up : Bool} {w h s : Int} {zs H : List Int} {sl sh sv0 : Value} {m n c : Nat} {cs : List Int} (hm60 : m ≤ 60) (hn : n < 1000000) (hz : RdS A 1 n (ints cs) sv0) (hh : RdS A 1 m (ints H) sh) (hg : g ≤ A.n) (h0 : seaE w h s m zs n cs = 0) (hc : c < m)
    (hH : ∀ d, d < m → d ≠ c → gi H d = gi zs (d * 2 + upN up)) (hHc : -2000000 ≤ gi H c ∧ gi H c ≤ 2000000)
    (hV : ∀ A' v, Ext' A A' → (if (c : Int) ∈ cs then v = 0 else ∃ o, SFin (sPar up (some c) w h m zs (seaN cs)) o ∧ v = max 0 (leastL o (nbrs w h c) - gi H c)) → V (.int .i64 v) A') : WF AP KL g 325 [gridV w h s sl, sh, sv0, .int .i64 c] A V := by
  have hcl : cs.length = n := by have := hz.1; simpa using this
  obtain ⟨hE, hn0, hsea, hcast⟩ := seaE_zero hcl h0
  obtain ⟨gw, gh, gm, gv⟩ := gridE_parts hE
  have hsl' : (seaN cs).length = n := by simp [seaN, hcl]
  have lH : H.length = m := by have := hh.1; simpa using this
  have c24 : w * h ≤ 24 * 24 := Int.mul_le_mul gw.2 gh.2 (by omega) (by omega)
  rw [WF_body (show KL 325 = none from rfl) (show AP 325 = some F325 from rfl)]
  obtain ⟨B, hB⟩ : ∃ B, B = A.push (.cells [.int .i64 w, .int .i64 h, .int .i64 s, sl] false) := ⟨_, rfl⟩
  have eB : Ext' A B := by rw [hB]; exact Ext'.push _ _
  have nB : B.n = A.n + 1 := by rw [hB]; rfl
  have b4 : B.get A.n = some (.cells [.int .i64 w, .int .i64 h, .int .i64 s, sl] false) := by rw [hB]; exact get_push_new
  simp (disch := as_aux_lemma => first | omega | simp only [hDs] <;> omega | simp [isCell]) [hRs, takeMarks, resA, resAll, resOne, Value.cells, F325, gridV, ← hB]
  refine loop325a (x := (c : Int)) (T0 := [.agg ⟨[.int .i64 w, .int .i64 h, .int .i64 s, sl]⟩, sh, sv0, .int .i64 c, .pointer (some ⟨A.n, 0, none⟩)]) (eB.rdS hz) hn (fun T1 hin hk => ?_) (fun T1 hin t8 => ?_) n 0 (by omega) (fun j hj => by omega) (fun t ht => ?_) ?_ ?_ ?_
  · have u1 := hk 1 (by simp)
    have u2 := hk 2 (by simp)
    have u3 := hk 3 (by simp)
    have u4 := hk 4 (by simp)
    simp at u1 u2 u3 u4
    simp (disch := as_aux_lemma => first | omega | simp only [hDs] <;> omega | simp [isCell]) [hRs, takeMarks, resA, resAll, resOne, Value.cells, u1, u2, u3, u4, b4]
    refine w322 (P := sPar up (some c) w h m zs (seaN cs)) (wo := (c : Int)) (s := s) (sPar_line (up := up) (s := s) hE hm60 hsea) (eB.rdS hh) (by show RdS B 1 (seaN cs).length (ints (castS (seaN cs))) sv0; rw [hsl', hcast]; exact eB.rdS hz) (by show (seaN cs).length < _; omega) (by omega) (fun d hd hdc => ?_) (fun d hd hdc => ?_) fun A1 o OB k1 e1 hO k4 => ?_
    · have hne : d ≠ c := fun h' => hdc (by rw [h'])
      have := gv d hd
      rw [hH d hd hne]
      show (if some d = some c then 1073741824 else gi zs (d * 2 + upN up)) = _ ∧ (if some d = some c then 1073741824 else gi zs (d * 2 + upN up)) ≤ _
      rw [if_neg (by simpa using hne)]
      cases up
      · exact ⟨rfl, by show gi zs (d * 2) ≤ _; omega⟩
      · exact ⟨rfl, by show gi zs (d * 2 + 1) ≤ _; omega⟩
    · have hne : d = c := by omega
      show (if some d = some c then (1073741824 : Int) else gi zs (d * 2 + upN up)) = _
      rw [if_pos (by rw [hne])]
    · have n1 := e1.1
      simp (disch := as_aux_lemma => first | omega | simp only [hDs] <;> omega | simp [isCell]) [hRs, takeMarks, resA, resAll, resOne, Value.cells, u3, u4, e1.get b4]
      refine w73 (w := w) (h := h) (c := c) (s := s) gw gh (by omega) (by omega) fun A2 sn e2 hacc => ?_
      rw [refNb_eq gw.1 (by omega)] at hacc
      obtain ⟨nn, hsn⟩ := hacc.rdS
      have hnn : nn ≤ 4 := by
        have a := hsn.1
        have b : (nbrs w h c).length ≤ 4 := nbI_len (Nat.le_refl 4)
        simp at a
        omega
      have rng := leastL_rng (o := o) (fun d => k1.rng d) (nbrs w h c)
      have ew : wr .i64 (leastL o (nbrs w h c) - gi H c) = leastL o (nbrs w h c) - gi H c := wrId (by omega) (by omega)
      have e02 := (eB.trans e1).trans e2
      obtain ⟨yb, yc, yr, rfl, hyb⟩ := (e02.rdS hh).at hc
      simp (disch := as_aux_lemma => first | omega | simp only [hDs] <;> omega | simp [isCell]) [hRs, takeMarks, resA, resAll, resOne, Value.cells]
      refine loop325b (l := nbrs w h c) (o := o) (m := m) (OB := OB) (T0 := T1) hsn (by omega) (e2.get k4) k1.len (fun d hd => by have := nbrs_range gw.1 hd; omega) (fun T2 t11 hk2 => ?_) nn 0 (by omega) ?_ (fun t ht => ?_) ?_ ?_ ?_
      · have v1 := (hk2 1 (by simp)).trans u1
        have v3 := (hk2 3 (by simp)).trans u3
        simp (disch := as_aux_lemma => first | omega | simp only [hDs] <;> omega | simp [isCell]) [hRs, takeMarks, resA, resAll, resOne, Value.cells, t11, v1, v3, idxSA_ok, hc, hyb, ints_get, lH, ew]
        refine hV A2 _ e02 ?_
        rw [if_neg hin]
        exact ⟨o, k1, rfl⟩
      · simp [leastL]
      · rcases ht with rfl | rfl <;> simp
      · simp [rowS1]; rfl
      · simp
      · simp
  · simp (disch := as_aux_lemma => first | omega | simp only [hDs] <;> omega | simp [isCell]) [hRs, takeMarks, resA, resAll, resOne, Value.cells, t8]
    refine hV B 0 eB ?_
    rw [if_pos hin]
  · rcases ht with rfl | rfl | rfl | rfl <;> simp
  all_goals simp
end
end Go.Ab.Grid
set_option maxRecDepth 100000
namespace Go.Ab.Grid
open Go Go.Ab
theorem _root_.Go.Ab.AccS.blk {N : Nat} {A : Hp} {cs : List Value} {sv : Value} (h : AccS N A 1 cs sv) (h0 : 0 < cs.length) : ∃ b, sv = .slice (some ⟨b, 0, some 1⟩) cs.length cs.length ∧ A.get b = some (.cells cs false) ∧ N ≤ b := by
  rcases h with ⟨_, rfl⟩ | ⟨b, n, rfl, h1, h2, h3, _⟩
  · simp at h0
  · have : cs.length = n := by omega
    subst this
    exact ⟨b, rfl, h1, h2⟩
section
variable {g : Nat} {rd : Option Nat} {T : List Value} {D : List Nat} {A : Hp} {Q : Ex → St → Prop} {V : Value → Hp → Prop}
theorem loop298 {A0 : Hp} {w h s : Int} {zs cs : List Int} {sl sv0 : Value} {m n X2 N : Nat} (hm60 : m ≤ 60) (hn : n < 1000000) (hz : RdS A0 1 n (ints cs) sv0) (hsl : RdS A0 2 m (ints zs) sl) (hN : A0.n = N) (hg : g ≤ N) (h0 : seaE w h s m zs n cs = 0) (hX2 : A0.get X2 = some (.cells [.int .i64 w, .int .i64 h, .int .i64 s, sl] false))
    (hQ : ∀ T' A' ps sv, Ext' A0 A' → AccS N A' 2 (ints ps) sv → ps.length = m * 2 → (∀ j, j < m → PondC w h m zs cs j (gi ps (j * 2)) (gi ps (j * 2 + 1))) → tget T' 7 = sv → Q (.exit 0) ⟨T', D, A'⟩) :
    ∀ (k i : Nat) {T : List Value} {A : Hp} (ps : List Int) (sv : Value), i + k = m → Ext' A0 A → AccS N A 2 (ints ps) sv → ps.length = i * 2 → (∀ j, j < i → PondC w h m zs cs j (gi ps (j * 2)) (gi ps (j * 2 + 1))) →
      tget T 1 = sv0 → tget T 2 = .pointer (some ⟨X2, 0, none⟩) → tget T 7 = sv → tget T 8 = .int .i64 i → W AP KL g rd (.loop body298) ⟨T, D, A⟩ Q := by
  intro k
  have lz : zs.length = m * 2 := by have := hsl.1; simpa using this
  have hcl : cs.length = n := by have := hz.1; simpa using this
  have hE := (seaE_zero hcl h0).1
  obtain ⟨gw, gh, gm, gv⟩ := gridE_parts hE
  have hl := hsl.len
  induction k with
  | zero =>
    intro i T A ps sv hi hb hacc hpl hp t1 t2 t7 t8
    have : i = m := by omega
    subst this
    rw [W_loop]
    simp (disch := as_aux_lemma => first | omega | simp only [hDs] <;> omega | simp [isCell]) [hRs, takeMarks, resA, resAll, resOne, Value.cells, body298, t2, t8, hb.get hX2, hl]
    exact hQ _ _ ps sv hb hacc hpl hp (by simp [t7])
  | succ k ih =>
    intro i T A ps sv hi hb hacc hpl hp t1 t2 t7 t8
    have e5 : wr .i64 ((i : Int) + 1) = ((i + 1 : Nat) : Int) := by rw [wrId (by omega) (by omega)]; simp
    have hAn := hb.1
    have him : i < m := by omega
    have gvi := gv i him
    rw [W_loop]
    simp (disch := as_aux_lemma => first | omega | simp only [hDs] <;> omega | simp [isCell]) [hRs, takeMarks, resA, resAll, resOne, Value.cells, body298, t1, t2, t7, t8, hb.get hX2, hl, show ((i : Int) < m) by omega, him]
    refine w323 (up := false) (by omega) (hb.rdS hsl) (Nat.le_refl _) fun A1 s1 e1 q1 => ?_
    have n1 := e1.1
    obtain ⟨b1, rfl, g1, k1⟩ := q1.blk (by simp [terI_len]; omega)
    simp (disch := as_aux_lemma => first | omega | simp only [hDs] <;> omega | simp [isCell]) [hRs, takeMarks, resA, resAll, resOne, Value.cells, t2, (hb.trans e1).get hX2]
    refine w323 (up := true) (by omega) ((hb.trans e1).rdS hsl) (by omega) fun A2 s2 e2 q2 => ?_
    have n2 := e2.1
    obtain ⟨b2, rfl, g2, k2⟩ := q2.blk (by simp [terI_len]; omega)
    have g12 := e2.get g1
    have hb1n := Hp.lt_of_get g1
    have hb2n := Hp.lt_of_get g2
    obtain ⟨xb, xc, xr, hsx, hxb⟩ := ((hb.trans e1).trans e2 |>.rdS hsl).at him
    have lI : ∀ up, (ints (terI up zs m)).length = m := fun up => by simp [terI_len]
    have lT : ∀ up, (terI up zs m).length = m := fun up => terI_len
    have lTf : (terI false zs m).length = m := terI_len
    have lTt : (terI true zs m).length = m := terI_len
    have g22 : ∀ b, (A2.set b1 (some b)).get b2 = some (.cells (ints (terI true zs m)) false) := fun b => by rw [get_set_ne (by omega) (by omega)]; exact g2
    simp (disch := as_aux_lemma => first | omega | simp only [hDs] <;> omega | simp [isCell]) [hRs, takeMarks, resA, resAll, resOne, Value.cells, t2, t8, ((hb.trans e1).trans e2).get hX2, hsx, hxb, idxSA_ok, him, ints_get, lz, lI, lT, g12, storeB_cells, setRange_intsI, g22]
    obtain ⟨A4, hA4⟩ : ∃ A4, A4 = (A2.set b1 (some (.cells (ints ((terI false zs m).set i (gi zs (i * 2 + 1)))) false))).set b2 (some (.cells (ints ((terI true zs m).set i (gi zs (i * 2)))) false)) := ⟨_, rfl⟩
    rw [← hA4]
    have n4 : A4.n = A2.n := by rw [hA4]; rfl
    have o4 : ∀ z, z < A2.n → z ≠ b1 → z ≠ b2 → A4.get z = A2.get z := fun z hz h1 h2 => by rw [hA4, get_set_ne (by simp; omega) h2, get_set_ne (by omega) h1]
    have h1 : A4.get b1 = some (.cells (ints ((terI false zs m).set i (gi zs (i * 2 + 1)))) false) := by rw [hA4, get_set_ne (by simp; omega) (by omega)]; exact get_set_same g12
    have h2 : A4.get b2 = some (.cells (ints ((terI true zs m).set i (gi zs (i * 2)))) false) := by rw [hA4]; exact get_set_same (g22 _)
    have e4 : Ext' A A4 := ⟨by omega, fun z hz => by rw [o4 z (by omega) (by omega) (by omega), (e1.trans e2).2 z hz]⟩
    have e04 := hb.trans e4
    have r1 : RdS A4 1 m (ints ((terI false zs m).set i (gi zs (i * 2 + 1)))) (.slice (some ⟨b1, 0, some 1⟩) m m) := ⟨by simp [lTf], .inr ⟨b1, m, false, rfl, h1⟩⟩
    have r2 : RdS A4 1 m (ints ((terI true zs m).set i (gi zs (i * 2)))) (.slice (some ⟨b2, 0, some 1⟩) m m) := ⟨by simp [lTt], .inr ⟨b2, m, false, rfl, h2⟩⟩
    simp (disch := as_aux_lemma => first | omega | simp only [hDs] <;> omega | simp [isCell]) [hRs, takeMarks, resA, resAll, resOne, Value.cells, t1, t2, t8, e04.get hX2]
    refine w325 (up := false) (s := s) hm60 hn (e04.rdS hz) r1 (Nat.le_refl _) h0 him (fun d hd hne => by rw [gi_setI (by omega), if_neg hne, terI_get hd]) (by rw [gi_setI (by omega), if_pos rfl]; omega) fun A5 v1 e5' hv1 => ?_
    have n5 := e5'.1
    simp (disch := as_aux_lemma => first | omega | simp only [hDs] <;> omega | simp [isCell]) [hRs, takeMarks, resA, resAll, resOne, Value.cells, t1, t2, t8, (e04.trans e5').get hX2]
    refine w325 (up := true) (s := s) hm60 hn ((e04.trans e5').rdS hz) (e5'.rdS r2) (by omega) h0 him (fun d hd hne => by rw [gi_setI (by omega), if_neg hne, terI_get hd]) (by rw [gi_setI (by omega), if_pos rfl]; omega) fun A6 v2 e6 hv2 => ?_
    have n6 := e6.1
    rw [gi_setI (by omega), if_pos rfl] at hv1 hv2
    have e46 := e4.trans (e5'.trans e6)
    obtain ⟨sv', A7, a1, a2, a3, a4⟩ := append_acc (g := g) (bytes := 16) (y := A6.n) (A := A6.push (.cells [.int .i64 v1, .int .i64 v2] false)) (new := [.int .i64 v1, .int .i64 v2]) (ro := false) (n := i) ((hacc.mono e46.2).mono (Ext'.push A6 _).2) (by omega) (by simp; omega) get_push_new rfl (by decide) rfl (by simp [hpl]) (by unfold room; omega)
    rw [show ints ps ++ [.int .i64 v1, .int .i64 v2] = ints (ps ++ [v1, v2]) by rw [ints_append]; rfl] at a2
    simp (disch := as_aux_lemma => first | omega | simp only [hDs] <;> omega | simp [isCell]) [hRs, takeMarks, resA, resAll, resOne, Value.cells, t7, t8, fillA, setRange, slitA, show zeros 1 [Value.int .i64 0, .int .i64 0] = [.int .i64 0, .int .i64 0] from rfl, a1, e5]
    have hb6 := hb.trans e46
    refine ih (i + 1) (ps ++ [v1, v2]) sv' (by omega) ⟨by have := hb6.1; rw [a4]; simp; omega, fun z hz => by have := hb6.1; rw [a3 z (by omega), get_push_old (by omega), hb6.2 z hz]⟩ a2 (by simp [hpl]; omega) (fun j hj => ?_) ?_ ?_ ?_ ?_
    · by_cases hji : j = i
      · subst hji
        rw [show gi (ps ++ [v1, v2]) (j * 2) = v1 from gi_r (j := 0) hpl, show gi (ps ++ [v1, v2]) (j * 2 + 1) = v2 from gi_r (j := 1) hpl, PondC]
        by_cases hin : (j : Int) ∈ cs
        · rw [if_pos hin] at hv1 hv2 ⊢
          exact ⟨hv1, hv2⟩
        · rw [if_neg hin] at hv1 hv2 ⊢
          obtain ⟨ol, f1, p1⟩ := hv1
          obtain ⟨oh, f2, p2⟩ := hv2
          exact ⟨ol, oh, f1, f2, p1, p2⟩
      · rw [gi_l (by omega), gi_l (by omega)]
        exact hp j (by omega)
    all_goals simp [t1, t2]
end
end Go.Ab.Grid
set_option maxRecDepth 100000
namespace Go.Ab.Grid
open Go Go.Ab
section
variable {g : Nat} {rd : Option Nat} {T : List Value} {D : List Nat} {A : Hp} {Q : Ex → St → Prop} {V : Value → Hp → Prop}
theorem w298 {w h s : Int} {zs cs : List Int} {sl sv0 : Value} {m n : Nat} (hm60 : m ≤ 60) (hn : n < 1000000) (hz : RdS A 1 n (ints cs) sv0) (hsl : RdS A 2 m (ints zs) sl) (hg : g ≤ A.n)
    (hV : ∀ A' sv e, Ext' A A' → PondV A' w h s m zs n cs A.n sv e → V (.tuple ⟨[sv, .int .i64 e]⟩) A') : WF AP KL g 298 [gridV w h s sl, sv0] A V := by
  rw [WF_body (show KL 298 = none from rfl) (show AP 298 = some F298 from rfl)]
  obtain ⟨B, hB⟩ : ∃ B, B = A.push (.cells [.int .i64 w, .int .i64 h, .int .i64 s, sl] false) := ⟨_, rfl⟩
  have eB : Ext' A B := by rw [hB]; exact Ext'.push _ _
  have nB : B.n = A.n + 1 := by rw [hB]; rfl
  have b2 : B.get A.n = some (.cells [.int .i64 w, .int .i64 h, .int .i64 s, sl] false) := by rw [hB]; exact get_push_new
  simp (disch := as_aux_lemma => first | omega | simp only [hDs] <;> omega | simp [isCell]) [hRs, takeMarks, resA, resAll, resOne, Value.cells, F298, gridV, ← hB, b2]
  refine w321 (by omega) hn (eB.rdS hz) (eB.rdS hsl) (by omega) fun A1 e1 => ?_
  have e01 := eB.trans e1
  have n1 := e1.1
  by_cases h0 : seaE w h s m zs n cs = 0
  · simp (disch := as_aux_lemma => first | omega | simp only [hDs] <;> omega | simp [isCell]) [hRs, takeMarks, resA, resAll, resOne, Value.cells, h0]
    refine loop298 (A0 := A1) (X2 := A.n) (N := A1.n) (w := w) (h := h) (s := s) (zs := zs) (cs := cs) (sl := sl) (sv0 := sv0) hm60 hn (e01.rdS hz) (e01.rdS hsl) rfl (by omega) h0 (e1.get b2) (fun T' A' ps sv e hacc hpl hp t7 => ?_) m 0 [] (.slice none 0 0) (by omega) ⟨Nat.le_refl _, fun _ _ => rfl⟩ (by simp [ints]; exact AccS.nil) rfl (fun j hj => by omega) ?_ ?_ ?_ ?_
    · simp (disch := as_aux_lemma => first | omega | simp only [hDs] <;> omega | simp [isCell]) [hRs, takeMarks, resA, resAll, resOne, Value.cells, t7]
      refine hV A' sv 0 (e01.trans e) ⟨h0.symm, ?_⟩
      rw [if_pos rfl]
      exact ⟨ps, hpl, hp, hacc.rd (by rw [ints_length, hpl]) (by decide), fun b hb => by have := (hacc.blk_ge hb).1; omega⟩
    all_goals simp
  · simp (disch := as_aux_lemma => first | omega | simp only [hDs] <;> omega | simp [isCell]) [hRs, takeMarks, resA, resAll, resOne, Value.cells, h0]
    refine hV A1 _ _ e01 ⟨rfl, ?_⟩
    rw [if_neg h0]
theorem w296 {n : Nat} {a : List Bool} {x y : Value} (ha : RdS A 1 n (bools a) x) (hb : RdS A 1 n (bools a) y) (hn : n < 1000000) (hV : V (.bool true) A) : WF AP KL g 296 [x, y] A V := by
  rw [WF_body (show KL 296 = none from rfl) (show AP 296 = some F296 from rfl)]
  have la : a.length = n := by have := ha.1; simpa [bools] using this
  have h1 := ha.len
  have h2 := hb.len
  have key : ∀ (k i : Nat) {T : List Value}, i + k = n → tget T 0 = x → tget T 1 = y → tget T 5 = .int .i64 i → W AP KL g none (.loop body296) ⟨T, [], A⟩ (BlkQ 0 (SeqQ AP KL g none (.seq (.ops [oP 4 (.move (.k (.bool true)))]) .ret) (FinQ [.tmp 4] V))) := by
    intro k
    induction k with
    | zero =>
      intro i T hi t0 t1 t5
      rw [W_loop]
      simp (disch := as_aux_lemma => first | omega | simp only [hDs] <;> omega | simp [isCell]) [hRs, takeMarks, resA, resAll, resOne, Value.cells, body296, t0, t1, t5, h1, show ¬ ((i : Int) < n) by omega]
      exact hV
    | succ k ih =>
      intro i T hi t0 t1 t5
      have e5 : wr .i64 ((i : Int) + 1) = ((i + 1 : Nat) : Int) := by rw [wrId (by omega) (by omega)]; simp
      obtain ⟨xb, xc, xr, hx, hxb⟩ := ha.at (show i < n by omega)
      obtain ⟨yb, yc, yr, hy, hyb⟩ := hb.at (show i < n by omega)
      have hc : cellAt (bools a) i = some (.bool (a[i]'(by omega))) := by simp [bools, cellAt, show i < a.length by omega]
      rw [hx] at t0
      rw [hy] at t1
      rw [hx] at h1
      rw [W_loop]
      simp (disch := as_aux_lemma => first | omega | simp only [hDs] <;> omega | simp [isCell]) [hRs, takeMarks, resA, resAll, resOne, Value.cells, body296, t0, t1, t5, h1, show ((i : Int) < n) by omega, show i < n by omega, idxSA_ok, hxb, hyb, hc, beqA, e5]
      refine ih (i + 1) (by omega) ?_ ?_ ?_
      all_goals simp [t0, t1, hx, hy]
  simp (disch := as_aux_lemma => first | omega | simp only [hDs] <;> omega | simp [isCell]) [hRs, takeMarks, resA, resAll, resOne, Value.cells, F296, h1, h2]
  refine key n 0 (by omega) ?_ ?_ ?_
  all_goals simp
end
end Go.Ab.Grid
set_option maxRecDepth 100000
namespace Go.Ab.Grid
open Go Go.Ab
section
variable {g : Nat} {rd : Option Nat} {T : List Value} {D : List Nat} {A : Hp} {Q : Ex → St → Prop} {V : Value → Hp → Prop}
theorem w292 {x : G} {vx : Value} (hx : GAt A x vx) (hg : g ≤ A.n) (hV : ∀ A', Ext' A A' → V (.bool (decide (60 < (x.m : Int)))) A') : WF AP KL g 292 [vx] A V := by
  obtain ⟨sx, rfl, rx⟩ := hx
  have hl := rx.len
  rw [WF_body (show KL 292 = none from rfl) (show AP 292 = some F292 from rfl)]
  simp (disch := as_aux_lemma => first | omega | simp only [hDs] <;> omega | simp [isCell]) [hRs, takeMarks, resA, resAll, resOne, Value.cells, F292, gridV, hl]
  exact hV _ (Ext'.push _ _)
end
end Go.Ab.Grid
set_option maxRecDepth 100000
namespace Go.Ab.Grid
open Go Go.Ab
section
variable {w h s : Int} {m : Nat} {zs : List Int} {n : Nat} {cs : List Int}
theorem SillV.uniq {A A' : Hp} {N N' : Nat} {sv sv' : Value} {e e' : Int} (hm : m ≤ 60) (hl : cs.length = n) (h1 : SillV A w h s m zs n cs N sv e) (h2 : SillV A' w h s m zs n cs N' sv' e') : e = e' ∧ ∃ k rs, k < 1000000 ∧ RdS A 2 k (ints rs) sv ∧ RdS A' 2 k (ints rs) sv' := by
  obtain ⟨a, b⟩ := h1
  obtain ⟨c, d⟩ := h2
  have hee : e = e' := by rw [a, c]
  subst hee
  refine ⟨rfl, ?_⟩
  by_cases h0 : e = 0
  · rw [if_pos h0] at b d
    obtain ⟨hE, _, hsea, _⟩ := seaE_zero hl (a ▸ h0)
    obtain ⟨lo, up, f1, f2, r1, _⟩ := b
    obtain ⟨lo', up', g1, g2, r2, _⟩ := d
    have q1 := SFin.uniq (sPar_line (up := false) (bar := none) hE hm hsea).ok f1 g1
    have q2 := SFin.uniq (sPar_line (up := true) (bar := none) hE hm hsea).ok f2 g2
    subst q1
    subst q2
    exact ⟨m, _, by omega, r1, r2⟩
  · rw [if_neg h0] at b d
    subst b
    subst d
    exact ⟨0, [], by omega, ⟨rfl, .inl ⟨rfl, rfl⟩⟩, ⟨rfl, .inl ⟨rfl, rfl⟩⟩⟩
theorem FloodV.uniq {A A' : Hp} {N N' : Nat} {a b : Int} {s6 s7 s6' s7' : Value} {e e' : Int} (hm : m ≤ 60) (hl : cs.length = n) (h1 : FloodV A w h s m zs n cs a b N s6 s7 e) (h2 : FloodV A' w h s m zs n cs a b N' s6' s7' e') :
    e = e' ∧ ∃ k l6 l7, k < 1000000 ∧ RdS A 1 k (bools l6) s6 ∧ RdS A' 1 k (bools l6) s6' ∧ RdS A 1 k (bools l7) s7 ∧ RdS A' 1 k (bools l7) s7' := by
  obtain ⟨p, q⟩ := h1
  obtain ⟨p', q'⟩ := h2
  have hee : e = e' := by rw [p, p']
  subst hee
  refine ⟨rfl, ?_⟩
  by_cases h0 : e = 0
  · rw [if_pos h0] at q q'
    have hs0 : seaE w h s m zs n cs = 0 := by
      rw [h0] at p
      unfold floodE at p
      split at p
      · assumption
      · rename_i hx; exact absurd p.symm hx
    obtain ⟨hE, _, hsea, _⟩ := seaE_zero hl hs0
    obtain ⟨lo, up, f1, f2, r1, r2, _⟩ := q
    obtain ⟨lo', up', g1, g2, r1', r2', _⟩ := q'
    have q1 := SFin.uniq (sPar_line (up := false) (bar := none) hE hm hsea).ok f1 g1
    have q2 := SFin.uniq (sPar_line (up := true) (bar := none) hE hm hsea).ok f2 g2
    subst q1
    subst q2
    exact ⟨m, _, _, by omega, r1, r1', r2, r2'⟩
  · rw [if_neg h0] at q q'
    obtain ⟨rfl, rfl⟩ := q
    obtain ⟨rfl, rfl⟩ := q'
    have nl : ∀ X : Hp, RdS X 1 0 (bools []) (.slice none 0 0) := fun X => ⟨rfl, .inl ⟨rfl, rfl⟩⟩
    exact ⟨0, [], [], by omega, nl _, nl _, nl _, nl _⟩
theorem PondV.uniq {A A' : Hp} {N N' : Nat} {sv sv' : Value} {e e' : Int} (hm : m ≤ 60) (hl : cs.length = n) (h1 : PondV A w h s m zs n cs N sv e) (h2 : PondV A' w h s m zs n cs N' sv' e') : e = e' ∧ ∃ k rs, k < 1000000 ∧ RdS A 2 k (ints rs) sv ∧ RdS A' 2 k (ints rs) sv' := by
  obtain ⟨a, b⟩ := h1
  obtain ⟨c, d⟩ := h2
  have hee : e = e' := by rw [a, c]
  subst hee
  refine ⟨rfl, ?_⟩
  by_cases h0 : e = 0
  · rw [if_pos h0] at b d
    obtain ⟨hE, _, hsea, _⟩ := seaE_zero hl (a ▸ h0)
    obtain ⟨ps, l1, p1, r1, _⟩ := b
    obtain ⟨ps', l2, p2, r2, _⟩ := d
    have key : ∀ j, j < m → gi ps (j * 2) = gi ps' (j * 2) ∧ gi ps (j * 2 + 1) = gi ps' (j * 2 + 1) := fun j hj => by
      have x := p1 j hj
      have y := p2 j hj
      unfold PondC at x y
      by_cases hin : (j : Int) ∈ cs
      · rw [if_pos hin] at x y
        omega
      · rw [if_neg hin] at x y
        obtain ⟨ol, oh, f1, f2, z1, z2⟩ := x
        obtain ⟨ol', oh', g1, g2, z1', z2'⟩ := y
        have q1 := SFin.uniq (sPar_line (up := false) (bar := some j) hE hm hsea).ok f1 g1
        have q2 := SFin.uniq (sPar_line (up := true) (bar := some j) hE hm hsea).ok f2 g2
        subst q1
        subst q2
        exact ⟨by rw [z1, z1'], by rw [z2, z2']⟩
    have : ps = ps' := list_gi (by rw [l1, l2]) fun i hi => by
      obtain ⟨j, hj⟩ : ∃ j, i = j * 2 ∨ i = j * 2 + 1 := ⟨i / 2, by omega⟩
      rcases hj with rfl | rfl
      · exact (key j (by omega)).1
      · exact (key j (by omega)).2
    subst this
    exact ⟨m, _, by omega, r1, r2⟩
  · rw [if_neg h0] at b d
    subst b
    subst d
    exact ⟨0, [], by omega, ⟨rfl, .inl ⟨rfl, rfl⟩⟩, ⟨rfl, .inl ⟨rfl, rfl⟩⟩⟩
end
section
variable {g : Nat} {rd : Option Nat} {T : List Value} {D : List Nat} {A : Hp} {Q : Ex → St → Prop} {V : Value → Hp → Prop}
theorem law280 {x : G} {vx sv0 : Value} {n : Nat} {cs : List Int} {a b : Int} (hx : GAt A x vx) (hz : RdS A 1 n (ints cs) sv0) (hg : g ≤ A.n) (hV : ∀ A', V (.bool true) A') : WF AP KL g 280 [vx, sv0, .agg ⟨[.int .i64 a, .int .i64 b]⟩] A V := by
  obtain ⟨sx, rfl, rx⟩ := hx
  have hcl : cs.length = n := by have := hz.1; simpa using this
  have hlz := hz.len
  rw [WF_body (show KL 280 = none from rfl) (show AP 280 = some F280 from rfl)]
  obtain ⟨B, hB⟩ : ∃ B, B = (A.push (.cells [.int .i64 x.w, .int .i64 x.h, .int .i64 x.s, sx] false)).push (.cells [.int .i64 a, .int .i64 b] false) := ⟨_, rfl⟩
  have eB : Ext' A B := by rw [hB]; exact (Ext'.push _ _).trans (Ext'.push _ _)
  have nB : B.n = A.n + 2 := by rw [hB]; rfl
  have b3 : B.get A.n = some (.cells [.int .i64 x.w, .int .i64 x.h, .int .i64 x.s, sx] false) := by rw [hB, get_push_old (by simp), get_push_eq (by omega)]
  have b5 : B.get (A.n + 1) = some (.cells [.int .i64 a, .int .i64 b] false) := by rw [hB, get_push_eq (by simp)]
  simp (disch := as_aux_lemma => first | omega | simp only [hDs] <;> omega | simp [isCell]) [hRs, takeMarks, resA, resAll, resOne, Value.cells, F280, gridV, ← hB, b3]
  refine w292 (x := x) ⟨_, rfl, eB.rdS rx⟩ (by omega) fun A1 e1 => ?_
  have n1 := e1.1
  by_cases h60 : (60 : Int) < x.m
  · simp (disch := as_aux_lemma => first | omega | simp only [hDs] <;> omega | simp [isCell]) [hRs, takeMarks, resA, resAll, resOne, Value.cells, h60]
    exact hV _
  · by_cases h60n : (60 : Int) < n
    · simp (disch := as_aux_lemma => first | omega | simp only [hDs] <;> omega | simp [isCell]) [hRs, takeMarks, resA, resAll, resOne, Value.cells, h60, hlz, h60n]
      exact hV _
    · have f1 := eB.trans e1
      simp (disch := as_aux_lemma => first | omega | simp only [hDs] <;> omega | simp [isCell]) [hRs, takeMarks, resA, resAll, resOne, Value.cells, h60, hlz, h60n, e1.get b3]
      refine w265 (s := x.s) (zs := x.zs) (by omega) (by omega) (f1.rdS hz) (f1.rdS rx) (by omega) fun A2 p1 d1 e2 v1 => ?_
      have n2 := e2.1
      have f2 := f1.trans e2
      simp (disch := as_aux_lemma => first | omega | simp only [hDs] <;> omega | simp [isCell]) [hRs, takeMarks, resA, resAll, resOne, Value.cells, (e1.trans e2).get b3]
      refine w293 (s := x.s) (zs := x.zs) (by omega) (by omega) (f2.rdS hz) (f2.rdS rx) (by omega) fun A3 p2 d2 e3 v2 => ?_
      have n3 := e3.1
      have f3 := f2.trans e3
      obtain ⟨rfl, k, rs, hk, r1, r2⟩ := v1.uniq (by omega) hcl v2
      simp (disch := as_aux_lemma => first | omega | simp only [hDs] <;> omega | simp [isCell]) [hRs, takeMarks, resA, resAll, resOne, Value.cells]
      refine w294 (e3.rdS r1) r2 hk ?_
      have e13 := (e1.trans e2).trans e3
      simp (disch := as_aux_lemma => first | omega | simp only [hDs] <;> omega | simp [isCell]) [hRs, takeMarks, resA, resAll, resOne, Value.cells, e13.get b3, e13.get b5]
      refine w253 (s := x.s) (zs := x.zs) (by omega) (by omega) (f3.rdS hz) (f3.rdS rx) (by omega) fun A4 p3 p4 d3 e4 v3 => ?_
      have n4 := e4.1
      have f4 := f3.trans e4
      simp (disch := as_aux_lemma => first | omega | simp only [hDs] <;> omega | simp [isCell]) [hRs, takeMarks, resA, resAll, resOne, Value.cells, (e13.trans e4).get b3, (e13.trans e4).get b5]
      refine w295 (s := x.s) (zs := x.zs) (by omega) (by omega) (f4.rdS hz) (f4.rdS rx) (by omega) fun A5 p5 p6 d4 e5 v4 => ?_
      have n5 := e5.1
      have f5 := f4.trans e5
      obtain ⟨rfl, k', l6, l7, hk', r3, r4, r5, r6⟩ := v3.uniq (by omega) hcl v4
      simp (disch := as_aux_lemma => first | omega | simp only [hDs] <;> omega | simp [isCell]) [hRs, takeMarks, resA, resAll, resOne, Value.cells]
      refine w296 (e5.rdS r3) r4 hk' ?_
      simp (disch := as_aux_lemma => first | omega | simp only [hDs] <;> omega | simp [isCell]) [hRs, takeMarks, resA, resAll, resOne, Value.cells]
      refine w296 (e5.rdS r5) r6 hk' ?_
      have e15 := (e13.trans e4).trans e5
      simp (disch := as_aux_lemma => first | omega | simp only [hDs] <;> omega | simp [isCell]) [hRs, takeMarks, resA, resAll, resOne, Value.cells, e15.get b3]
      refine w297 (s := x.s) (zs := x.zs) (by omega) (by omega) (f5.rdS hz) (f5.rdS rx) (by omega) fun A6 p7 d5 e6 v5 => ?_
      have n6 := e6.1
      have f6 := f5.trans e6
      simp (disch := as_aux_lemma => first | omega | simp only [hDs] <;> omega | simp [isCell]) [hRs, takeMarks, resA, resAll, resOne, Value.cells, (e15.trans e6).get b3]
      refine w298 (s := x.s) (zs := x.zs) (by omega) (by omega) (f6.rdS hz) (f6.rdS rx) (by omega) fun A7 p8 d6 e7 v6 => ?_
      obtain ⟨rfl, k2, rs2, hk2, r7, r8⟩ := v5.uniq (by omega) hcl v6
      simp (disch := as_aux_lemma => first | omega | simp only [hDs] <;> omega | simp [isCell]) [hRs, takeMarks, resA, resAll, resOne, Value.cells]
      refine w294 (e7.rdS r7) r8 hk2 ?_
      simp (disch := as_aux_lemma => first | omega | simp only [hDs] <;> omega | simp [isCell]) [hRs, takeMarks, resA, resAll, resOne, Value.cells]
      exact hV _
end
end Go.Ab.Grid
set_option maxRecDepth 100000
namespace Go.Ab.Grid
open Go Go.Ab
structure Land where
  wide : Int
  high : Int
  nl : Nat
  low : List Int
  nm : Nat
  more : List Int
def Land.lo (L : Land) (i : Nat) : Int := if 0 < L.nl then gi L.low (i % L.nl) else 0
def Land.hi (L : Land) (i : Nat) : Int := L.lo i + if 0 < L.nm then gi L.more (i % L.nm) else 0
def Land.w (L : Land) : Int := 1 + L.wide.tmod 5
def Land.h (L : Land) : Int := 1 + L.high.tmod 5
def Land.n (L : Land) : Nat := (L.w * L.h).toNat
def Land.zs (L : Land) : Nat → List Int
  | 0 => []
  | i + 1 => L.zs i ++ [L.lo i, L.hi i]
def Land.G (L : Land) : G := ⟨L.w, L.h, 100, L.n, L.zs L.n⟩
structure Land.Ok (L : Land) : Prop where
  wide : 0 ≤ L.wide ∧ L.wide ≤ 255
  high : 0 ≤ L.high ∧ L.high ≤ 255
  low : ∀ i, -32768 ≤ gi L.low i ∧ gi L.low i ≤ 32767
  more : ∀ i, 0 ≤ gi L.more i ∧ gi L.more i ≤ 255
  nl : L.low.length = L.nl ∧ L.nl ≤ 9223372036854775807
  nm : L.more.length = L.nm ∧ L.nm ≤ 9223372036854775807
def Land.V (L : Land) (sl sm : Value) : Value := .agg ⟨[.int .u8 L.wide, .int .u8 L.high, sl, sm]⟩
theorem Land.Ok.w {L : Land} (h : L.Ok) : 1 ≤ L.w ∧ L.w ≤ 5 := by
  have h1 := Int.tmod_nonneg 5 h.wide.1
  have h2 := Int.tmod_lt_of_pos L.wide (show (0 : Int) < 5 by decide)
  unfold Land.w; omega
theorem Land.Ok.h {L : Land} (h : L.Ok) : 1 ≤ L.h ∧ L.h ≤ 5 := by
  have h1 := Int.tmod_nonneg 5 h.high.1
  have h2 := Int.tmod_lt_of_pos L.high (show (0 : Int) < 5 by decide)
  unfold Land.h; omega
theorem Land.Ok.n {L : Land} (h : L.Ok) : (L.n : Int) = L.w * L.h ∧ 1 ≤ L.n ∧ L.n ≤ 25 := by
  have a := Int.mul_le_mul h.w.1 h.h.1 (by decide) (by have := h.w; omega)
  have b := Int.mul_le_mul h.w.2 h.h.2 (by have := h.h; omega) (by decide)
  unfold Land.n; omega
section
variable {g : Nat} {rd : Option Nat} {T : List Value} {D : List Nat} {A : Hp} {Q : Ex → St → Prop} {V : Value → Hp → Prop}
end
end Go.Ab.Grid
set_option maxRecDepth 100000
namespace Go.Ab.Grid
open Go Go.Ab
theorem maxLen_lt : maxLen ≤ 9223372036854775807 := by decide
theorem sh_rowk {rows : List (List Value)} {k : IntKind} {cs : List Value} (h : Sh rows (.slice (.int k)) cs) :
    ∃ (n : Nat) (zs : List Int) (sl : Value), cs = [sl] ∧ RdS (roHp rows) 1 n (kints k zs) sl ∧ (zs.length = n ∧ n ≤ 9223372036854775807) ∧ ∀ z ∈ zs, k.min ≤ z ∧ z ≤ k.max := by
  obtain ⟨n, zs, sl, h1, r, m, b⟩ := sh_slice_k (k := k) (e := .int k) (by simp [allK]) h
  refine ⟨n, zs, sl, h1, r, ⟨?_, Nat.le_trans m maxLen_lt⟩, b⟩
  have := r.1
  rw [kints_length] at this
  simpa [Ty.size] using this
theorem sh_two {rows : List (List Value)} {cs : List Value} (h : Sh rows (.rep 2 (.int .i64)) cs) : ∃ a b : Int, mkV (.rep 2 (.int .i64)) cs = .agg ⟨[.int .i64 a, .int .i64 b]⟩ := by
  obtain ⟨_, _, rfl, h1, ⟨_, _, rfl, h2, rfl⟩⟩ := h
  obtain ⟨a, rfl, _⟩ := sh_int h1
  obtain ⟨b, rfl, _⟩ := sh_int h2
  exact ⟨a, b, rfl⟩
end Go.Ab.Grid
set_option maxRecDepth 100000
namespace Go.Ab.Grid
open Go Go.Ab Go.Proofs Go.Shelf Go.ChangeShapes Go.WideShapes Go.ChangeAt Go.RowKit Go.Proofs.YtmppgcknmmmioaaGreatDoor
theorem isFn' (f nt : Nat) (rs : List ARes) (c : ACode) {W0 : Array Obj} (h : AP f = some (.fn nt rs c)) : ∃ nt rs body, (E W0).AP f = some (.fn nt rs body) := ⟨nt, rs, c, h⟩
theorem own : ownKnob Tryz.prog.godebug = none := by kernel_rfl
theorem laidOut : laidOutB Tryz.prog = true := by kernel_rfl
abbrev laidL : List (String × DataW Unit) := Rows.gridNearsRow.laid
theorem white {w : World} : Lib.VarReads Tryz.prog w "unicode.White_Space" Lib.whiteData → Lib.WhiteTab 1 w := fun h =>
  whiteTab_of_reads (ρ := Tryz.lays157_ren) { Tryz.lays157 with } { n6 := by kernel_rfl, y6 := by kernel_rfl, c3 := by kernel_rfl, c49 := by kernel_rfl, c193 := by kernel_rfl, c194 := by kernel_rfl, c196 := by kernel_rfl, c198 := by kernel_rfl } h
theorem var_heap {w : World} {n : String} {g : Nat} {cs : Array Value} (hg : Tryz.prog.globalNamed n = some g) (h : w.var? Tryz.prog n = some cs) : ∃ t fr, w.heap[g]? = some (.cells cs t fr) := by
  unfold World.var? at h
  rw [hg] at h
  simp only [Option.bind_some] at h
  split at h
  · rename_i cs' t fr he; cases h; exact ⟨t, fr, he⟩
  · cases h
theorem laidW_of {w : World} (hm : laidMet Tryz.prog laidL w) (hs : w.ShapedOpen Tryz.prog) : LaidW w := by
  have hp := Lib.laidMet.reads hm (d := Rows.laid_internal_strconv_uint64pow10) (List.mem_cons_of_mem _ (List.mem_cons_of_mem _ List.mem_cons_self))
  have hr := Lib.laidMet.reads hm (d := Rows.laid_strconv_ErrRange) (List.mem_cons_of_mem _ (List.mem_cons_of_mem _ (List.mem_cons_of_mem _ List.mem_cons_self)))
  have hy := Lib.laidMet.reads hm (d := Rows.laid_strconv_ErrSyntax) (List.mem_cons_of_mem _ (List.mem_cons_of_mem _ (List.mem_cons_of_mem _ (List.mem_cons_of_mem _ List.mem_cons_self))))
  have hw := Lib.laidMet.reads hm (d := Rows.laid_unicode_White_Space) (List.mem_cons_of_mem _ (List.mem_cons_of_mem _ (List.mem_cons_of_mem _ (List.mem_cons_of_mem _ (List.mem_cons_of_mem _ List.mem_cons_self)))))
  have ha := Lib.laidMet.reads hm (d := Rows.laid_strings_asciiSpace) (List.mem_cons_of_mem _ (List.mem_cons_of_mem _ (List.mem_cons_of_mem _ (List.mem_cons_of_mem _ (List.mem_cons_of_mem _ (List.mem_cons_of_mem _ List.mem_cons_self))))))
  have iface : ∀ {n : String} {nm : String} {d : DataW Unit} {g : Nat} {t : TypeId} {ms : Array (String × TypeId)}, Tryz.prog.globalNamed n = some g → (Tryz.prog.globals[g]?).map (·.type) = some t → Tryz.prog.underlying t = some (.interface ms) →
      Lib.VarReads Tryz.prog w n (.iface nm d) → ∃ ev, w.cell? ⟨g, 0, none⟩ = some ev ∧ (ev = .nilIface ∨ ∃ te pe, ev = .iface te pe) := by
    intro n nm d g t ms hg ht hu h
    obtain ⟨g', t', cs, fuel, p, hg', ht', hv, hd⟩ := h
    obtain rfl := Option.some.inj (hg.symm.trans hg')
    obtain rfl := Option.some.inj (ht.symm.trans ht')
    obtain ⟨_, u, v, hcs, _, _⟩ := iface_of_trod hu hd
    have := World.var?_cell hg hv 0
    rw [← Array.getElem?_toList, hcs] at this
    exact ⟨_, this, .inr ⟨u, v, rfl⟩⟩
  have tab : ∀ {n : String} {k : IntKind} {zs : List Int} {g : Nat} {t e : TypeId} {N : Nat}, Tryz.prog.globalNamed n = some g → (Tryz.prog.globals[g]?).map (·.type) = some t → Tryz.prog.underlying t = some (.array N e) →
      Tryz.prog.underlying e = some (.int k) → Tryz.prog.cellsOf e = 1 → Tryz.prog.cellsOf t = N → Lib.VarReads Tryz.prog w n (Lib.tabData k zs) → ∃ t fr, w.heap[g]? = some (.cells (zs.map fun z => Value.int k z).toArray t fr) := by
    intro n k zs g t e N hg ht hu he hce hct h
    obtain ⟨g', t', cs, fuel, p, hg', ht', hv, hd⟩ := h
    obtain rfl := Option.some.inj (hg.symm.trans hg')
    obtain rfl := Option.some.inj (ht.symm.trans ht')
    have hcs := Lib.cells_of_tab hu he hce hct hd
    obtain ⟨t, fr, h⟩ := var_heap hg hv
    exact ⟨t, fr, by rw [h, ← hcs]⟩
  refine ⟨?_, ?_, ?_, ?_, ?_, white hw⟩
  · exact cell_of_shapedOpen_int (zero := #[.int .i64 0]) (t := 3) hs (of_decide_eq_true (by kernel_rfl)) (by kernel_rfl) rfl (by kernel_rfl) (by kernel_rfl) Tryz.underlying3
  · exact iface (by kernel_rfl) (by kernel_rfl) Tryz.underlying122 hy
  · exact iface (by kernel_rfl) (by kernel_rfl) Tryz.underlying122 hr
  · exact tab (by kernel_rfl) (by kernel_rfl) Tryz.underlying207 (by kernel_rfl) (by kernel_rfl) (by kernel_rfl) ((show Rows.laid_internal_strconv_uint64pow10 = Lib.tabData .u64 Lib.pow10Tab by kernel_rfl) ▸ hp)
  · exact tab (by kernel_rfl) (by kernel_rfl) Tryz.underlying153 (by kernel_rfl) (by kernel_rfl) (by kernel_rfl) ((show Rows.laid_strings_asciiSpace = Lib.tabData .u8 Lib.asciiSpaceTab by kernel_rfl) ▸ ha)
section
variable {H : Type} {enc : TypeId × Value → H} {os : Os}
theorem laid_all (args : Array Value) : laidMetH Tryz.prog laidL ((World.laidAll Tryz.prog os laidL).forCall (fun _ _ => 0) ⟨#[], args, []⟩).memory := by
  rw [MakeChecks.laidMetH_plain _ _ _ (by kernel_rfl)]
  exact laidMet_laidAll _ (by kernel_rfl) (by kernel_rfl)
theorem laid_shaped (args : Array Value) : ((World.laidAll Tryz.prog os laidL).forCall (fun _ _ => 0) ⟨#[], args, []⟩).Shaped Tryz.prog := World.shaped_of_ZipB (by kernel_rfl) (by kernel_rfl)
theorem returns_laid {f : FuncId} {fn : Func} {s : ChangeSpec} (started : os.Started) (noInit : Tryz.checked.prog.inits.idxOf? f = none) (hfn : Tryz.checked.prog.funcs[f]? = some fn) (args0 : Array Value)
    (hok : Input.okWideB Tryz.checked.prog ((World.laidAll Tryz.prog os laidL).forCall (fun _ _ => 0) ⟨#[], args0, []⟩) f ⟨#[], args0, []⟩ = true)
    (hpre : s.preB enc Tryz.checked.prog fn [] false ((World.laidAll Tryz.prog os laidL).forCall (fun _ _ => 0) ⟨#[], args0, []⟩).memory args0 8 = true)
    (hsz : s.sizedB enc Tryz.checked.prog fn false ((World.laidAll Tryz.prog os laidL).forCall (fun _ _ => 0) ⟨#[], args0, []⟩).memory args0 8 = true)
    (contract : ∀ (W : World) (base : Nat) (args : Array Value) (ds gs : List (DataW H)) (before : List MemPlace),
      (∀ (j : Nat) t v, fn.params[j]? = some t → args[j]? = some v → Value.okWide Tryz.prog W .any base t v) →
      DataW.Whole enc Tryz.prog fn.params.toList s.vars false W args.toList ds gs before → LaidW W →
      Calls Tryz.prog f args W fun e W' => ∃ v, e = .returned v ∧ s.post enc Tryz.prog fn false true false false W args v W') :
    ReturnsInHanded {} Tryz.checked os f .any (fun w args => (s.pre enc Tryz.checked.prog fn [] false w args ∧ laidMetH Tryz.checked.prog laidL w) ∧ sizedMet enc Tryz.checked.prog fn (OpenSpec.ofChange s) false w args)
      (s.post enc Tryz.checked.prog fn false true false false) := by
  refine returnsInHanded_of_calls (C := Tryz.checked) own started noInit
    (ChangeSpec.witness_shaped (enc := enc) (C := Tryz.checked) (os := os) (s := s) (X := fun w _ => laidMetH Tryz.prog laidL w) false (World.laidAll Tryz.prog os laidL) args0 8 (World.laidAll_os _ _ _) (laid_shaped args0) hok hpre hsz (laid_all args0)) ?_
  intro w tape i _ hsh _ hok hpre _
  obtain ⟨_, _, _, fn', hfn', _, _, _, _, hval⟩ := hok
  have e : fn' = fn := Option.some.inj (hfn'.symm.trans hfn)
  subst e
  obtain ⟨⟨⟨ds, gs, before, hw, _⟩, hx⟩, _⟩ := hpre
  have hw' := DataW.Whole.of_heap (w' := w.forCall tape i) (by rfl) hw
  have hx' : laidMet Tryz.prog laidL (w.forCall tape i) := by
    have hx1 : laidMetH Tryz.prog laidL (w.forCall tape i).memory := hx
    rw [MakeChecks.laidMetH_plain _ _ _ (by kernel_rfl)] at hx1
    exact hx1.of_heap (by rfl)
  refine (contract (w.forCall tape i) w.heap.size i.args ds gs before hval hw' (laidW_of hx' hsh)).mono fun e W' ⟨v, he, hp⟩ => ?_
  subst he
  exact ChangeSpec.post_blind hp
end
end Go.Ab.Grid
set_option maxRecDepth 100000
namespace Go.Ab.Grid
open Go Go.Ab
def tGrid : Ty := .pair (.int .i64) (.pair (.int .i64) (.pair (.int .i64) (.pair (.slice (.rep 2 (.int .i64))) .unit)))
theorem sh_grid {rows : List (List Value)} {cs : List Value} (h : Sh rows tGrid cs) :
    ∃ (w h s : Int) (m : Nat) (zs : List Int) (sl : Value), mkV tGrid cs = gridV w h s sl ∧ RdS (roHp rows) 2 m (ints zs) sl ∧ m ≤ maxLen ∧ (∀ z ∈ zs, -9223372036854775808 ≤ z ∧ z ≤ 9223372036854775807) := by
  obtain ⟨_, _, rfl, h1, ⟨_, _, rfl, h2, ⟨_, _, rfl, h3, ⟨_, _, rfl, h4, rfl⟩⟩⟩⟩ := h
  obtain ⟨a1, rfl, b1⟩ := sh_int h1
  obtain ⟨a2, rfl, b2⟩ := sh_int h2
  obtain ⟨a3, rfl, b3⟩ := sh_int h3
  obtain ⟨n, zs, sl, rfl, r, m, b⟩ := sh_slice_k (k := .i64) rfl h4
  exact ⟨a1, a2, a3, n, zs, sl, rfl, r, m, b⟩
end Go.Ab.Grid
