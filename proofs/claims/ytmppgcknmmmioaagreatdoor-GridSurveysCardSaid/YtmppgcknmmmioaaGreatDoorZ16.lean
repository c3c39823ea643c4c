/- A grid among a law's arguments. -/
import Derived.Test.YtmppgcknmmmioaaGreatDoorZ15
import Derived.Test.YtmppgcknmmmioaaGreatDoorZ13
import Derived.Test.YtmppgcknmmmioaaGreatDoorTie
import Derived.Lib.LaidU8
import Derived.Shelf.Vars
import Derived.Lay
import Derived.Handed
import Derived.MakeChecks
import Derived.Test.YtmppgcknmmmioaaGreatDoorZ14
set_option linter.unusedSimpArgs false
set_option linter.unusedVariables false
set_option linter.unusedSectionVars false
set_option maxRecDepth 100000
namespace Go.Ab.Grid
open Go Go.Ab
def pa281 : ACode := (.ops [
oP 3 (.box (.t 0)),
oP 4 (.box (.t 1)),
oP 6 (.move (.k (.bool false)))])
def pb281 : ACode := (.seq
 (.ops [
oD 15 3 4,
oA 16 292 [.t 15] false,
oM 17 16,
oQ 18 17 false (.load (.t 4) (some 4)),
oQ 19 17 false (.call (.k (.func (.func 292) ⟨[]⟩ ⟨[]⟩)) [.t 18] false),
oP 20 (.pick (.t 17) (.k (.bool true)) (.t 19)),
oM 21 20,
oN 22 21 false 2,
oQ 23 21 false (.len (.t 22)),
oQ 24 21 false (.bin .gtr (.t 23) (oK 60)),
oN 25 21 false 24,
oN 26 25 true 2,
oQ 27 25 true (.len (.t 26)),
oQ 28 25 true (.bin .leq (.t 27) (oK 4096)),
oQ 29 21 false (.pick (.t 25) (.t 28) (.k (.bool false))),
oP 30 (.pick (.t 21) (.k (.bool true)) (.t 29)),
oM 31 30,
oN 32 31 false 2,
oQ 33 31 false (.len (.t 32)),
oQ 34 31 false (.bin .gtr (.t 33) (oK 4100)),
oP 35 (.pick (.t 31) (.k (.bool true)) (.t 34))])
 (.cond (.t 35)
 (.seq
 (.ops [
oA 36 289 [] false,
oM 6 36])
 .ret)
 .skip))
def pr281 : ACode := (.seq
 (.ops [
oD 38 3 4,
oD 39 4 4,
oA 40 299 [.t 38, .t 39] false,
oM 37 40,
oX 41 37 0,
oX 42 37 1,
oX 43 37 2,
oP 7 (.alloc [.int .i64 0, .int .i64 0, .int .i64 0, .slice none 0 0]),
oT 7 41 4,
oM 8 42,
oM 9 43])
 (.seq
 (.ops [
oD 45 3 4,
oD 46 4 4,
oA 47 300 [.t 45, .t 46] false,
oM 44 47,
oX 48 44 0,
oX 49 44 1,
oX 50 44 2,
oP 10 (.alloc [.int .i64 0, .int .i64 0, .int .i64 0, .slice none 0 0]),
oT 10 48 4,
oM 11 49,
oM 12 50])
 (.seq
 (.seq
 (.ops [
oD 51 7 4,
oD 52 10 4,
oA 53 301 [.t 51, .t 52] false,
oP 54 (.not (.t 53)),
oM 55 54,
oN 56 55 false 8,
oN 57 55 false 11,
oQ 58 55 false (.bin .neq (.t 56) (.t 57)),
oP 59 (.pick (.t 55) (.k (.bool true)) (.t 58)),
oM 60 59,
oN 61 60 false 9,
oN 62 60 false 12,
oQ 63 60 false (.bin .neq (.t 61) (.t 62)),
oP 64 (.pick (.t 60) (.k (.bool true)) (.t 63))])
 (.cond (.t 64)
 (.seq
 (.ops [
oP 6 (.move (.k (.bool false)))])
 .ret)
 .skip))
 (.seq
 (.ops [
oP 13 (.move (.k (.slice none 0 0)))])
 (.seq
 (.seq
 (.ops [
oP 14 (.move (oK 0))])
 (.block 0
 (.loop
 (.seq
 (.seq
 (.ops [
oM 65 14,
oM 66 2,
oP 67 (.len (.t 66)),
oB 68 .lss 65 67])
 (.cond (.t 68)
 .skip
 (.exit 0)))
 (.seq
 (.block 1
 (.ops [
oM 71 13,
oM 72 2,
oM 73 14,
oI 74 72 73 3,
oF 75 74 0,
oL 76 75,
oM 77 2,
oM 78 14,
oI 79 77 78 3,
oF 80 79 1,
oL 81 80,
oM 82 2,
oM 83 14,
oI 84 82 83 3,
oF 85 84 2,
oL 86 85,
oP 87 (.build [.int .i64 0, .int .i64 0, .int .i64 0] [(0, 1, .t 76), (1, 1, .t 81), (2, 1, .t 86)]),
oP 88 (.slit 1 3 [.int .i64 0, .int .i64 0, .int .i64 0] [(0, .t 87)]),
oP 89 (.append (.t 71) (.t 88) 3 24),
oM 13 89]))
 (.ops [
oM 69 14,
oC 70 .add 69 1,
oM 14 70]))))))
 (.seq
 (.ops [
oD 91 3 4,
oM 92 13,
oA 93 302 [.t 91, .t 92] false,
oM 90 93,
oX 94 90 0,
oX 95 90 1,
oX 96 90 2,
oT 7 94 4,
oM 8 95,
oM 9 96])
 (.seq
 (.ops [
oD 98 3 4,
oM 99 2,
oA 100 303 [.t 98, .t 99] false,
oM 97 100,
oX 101 97 0,
oX 102 97 1,
oX 103 97 2,
oT 10 101 4,
oM 11 102,
oM 12 103])
 (.seq
 (.ops [
oD 104 7 4,
oD 105 10 4,
oA 106 301 [.t 104, .t 105] false,
oM 107 106,
oN 108 107 true 8,
oN 109 107 true 11,
oQ 110 107 true (.bin .eql (.t 108) (.t 109)),
oP 111 (.pick (.t 107) (.t 110) (.k (.bool false))),
oM 112 111,
oN 113 112 true 9,
oN 114 112 true 12,
oQ 115 112 true (.bin .eql (.t 113) (.t 114)),
oP 116 (.pick (.t 112) (.t 115) (.k (.bool false))),
oM 117 116,
oQ 118 117 true (.call (.k (.func (.func 289) ⟨[]⟩ ⟨[]⟩)) [] false),
oP 119 (.pick (.t 117) (.t 118) (.k (.bool false))),
oM 6 119])
 .ret))))))))
theorem AP281 : AP 281 = some (.fn 120 [.tmp 6] (.seq pa281 (.seq pb281 pr281))) := rfl
section
variable {g : Nat} {rd : Option Nat} {T : List Value} {D : List Nat} {A : Hp} {Q : Ex → St → Prop} {V : Value → Hp → Prop}
theorem w292 {x : G} {vx : Value} (hx : GAt A x vx) (hg : g ≤ A.n) (hV : ∀ A', Ext' A A' → V (.bool (decide (60 < (x.m : Int)))) A') : WF AP KL g 292 [vx] A V := by
  obtain ⟨sx, rfl, rx⟩ := hx
  have hl := rx.len
  rw [WF_body (show KL 292 = none from rfl) (show AP 292 = some F292 from rfl)]
  simp (disch := as_aux_lemma => first | omega | simp only [hDs] <;> omega | simp [isCell]) [hRs, takeMarks, resA, resAll, resOne, Value.cells, F292, gridV, hl]
  exact hV _ (Ext'.push _ _)
theorem take_snd {ls : List Int} {i : Nat} (h : i * 3 + 3 ≤ ls.length) : ints (ls.take (i * 3)) ++ [.int .i64 (gi ls (i * 3)), .int .i64 (gi ls (i * 3 + 1)), .int .i64 (gi ls (i * 3 + 2))] = ints (ls.take ((i + 1) * 3)) := by
  have e : ls.take ((i + 1) * 3) = ls.take (i * 3) ++ [gi ls (i * 3), gi ls (i * 3 + 1), gi ls (i * 3 + 2)] := by
    rw [show (i + 1) * 3 = i * 3 + 1 + 1 + 1 by omega, List.take_succ_eq_append_getElem (by omega), List.take_succ_eq_append_getElem (by omega), List.take_succ_eq_append_getElem (by omega)]
    have q0 : gi ls (i * 3) = ls[i * 3] := gi_eq (by omega)
    have q1 : gi ls (i * 3 + 1) = ls[i * 3 + 1] := gi_eq (by omega)
    have q2 : gi ls (i * 3 + 2) = ls[i * 3 + 1 + 1] := gi_eq (by omega)
    rw [q0, q1, q2]
    simp only [List.append_assoc, List.cons_append, List.nil_append]
  rw [e, ints_append]
  rfl
theorem loop281 {A0 : Hp} {N n : Nat} {ls : List Int} {sl : Value} (hsl : RdS A0 3 n (ints ls) sl) (hn : n < 1000000) (hg : g ≤ N) (hN : A0.n = N)
    (hQ : ∀ T' A' sv, Ext' A0 A' → AccS N A' 3 (ints ls) sv → tget T' 13 = sv → (∀ t, t = 2 ∨ t = 3 ∨ t = 7 ∨ t = 10 → tget T' t = tget T t) → Q (.exit 0) ⟨T', D, A'⟩) :
    ∀ (k i : Nat) {T1 : List Value} {A : Hp} (sv : Value), i + k = n → Ext' A0 A → AccS N A 3 (ints (ls.take (i * 3))) sv → tget T1 2 = sl → tget T1 13 = sv → tget T1 14 = .int .i64 i → (∀ t, t = 2 ∨ t = 3 ∨ t = 7 ∨ t = 10 → tget T1 t = tget T t) →
      W AP KL g rd (.loop body281) ⟨T1, D, A⟩ Q := by
  intro k
  have ll : ls.length = n * 3 := by have := hsl.1; simpa using this
  have hl := hsl.len
  induction k with
  | zero =>
    intro i T1 A sv hi hb hacc t2 t13 t14 hk
    rw [W_loop]
    simp (disch := as_aux_lemma => first | omega | simp only [hDs] <;> omega | simp [isCell]) [hRs, takeMarks, resA, resAll, resOne, Value.cells, body281, t2, t14, hl, show ¬ ((i : Int) < n) by omega]
    rw [List.take_of_length_le (by omega)] at hacc
    exact hQ _ _ sv hb hacc (by simp [t13]) fun t ht => by rcases ht with rfl | rfl | rfl | rfl <;> simp [hk]
  | succ k ih =>
    intro i T1 A sv hi hb hacc t2 t13 t14 hk
    have e5 : wr .i64 ((i : Int) + 1) = ((i + 1 : Nat) : Int) := by rw [wrId (by omega) (by omega)]; simp
    have hAn := hb.1
    have hsA := hb.rdS hsl
    obtain ⟨xb, xc, xr, rfl, hxb⟩ := hsA.at (show i < n by omega)
    obtain ⟨sv', A1, a1, a2, a3, a4⟩ := append_acc (g := g) (bytes := 24) (y := A.n) (A := A.push (.cells [.int .i64 (gi ls (i * 3)), .int .i64 (gi ls (i * 3 + 1)), .int .i64 (gi ls (i * 3 + 2))] false)) (new := [.int .i64 (gi ls (i * 3)), .int .i64 (gi ls (i * 3 + 1)), .int .i64 (gi ls (i * 3 + 2))]) (ro := false) (n := i) (hacc.mono (Ext'.push A _).2) (by omega) (by simp; omega) get_push_new rfl (by decide) rfl (by simp; omega) (by unfold room; omega)
    rw [take_snd (by omega)] at a2
    rw [W_loop]
    simp (disch := as_aux_lemma => first | omega | simp only [hDs] <;> omega | simp [isCell]) [hRs, takeMarks, resA, resAll, resOne, Value.cells, body281, t2, t13, t14, hl, show ((i : Int) < n) by omega, show i < n by omega, idxSA_ok, hxb, ints_get, ll, fillA, setRange, slitA, show zeros 1 [Value.int .i64 0, .int .i64 0, .int .i64 0] = [.int .i64 0, .int .i64 0, .int .i64 0] from rfl, a1, e5]
    refine ih (i + 1) sv' (by omega) ⟨by rw [a4]; simp; omega, fun z hz => by rw [a3 z (by omega), get_push_old (by omega), hb.2 z hz]⟩ a2 ?_ ?_ ?_ ?_
    · simp [t2]
    · simp
    · simp
    · intro t ht
      rcases ht with rfl | rfl | rfl | rfl <;> simp [hk]
theorem loop281_s {g : Nat} {A0 : Hp} {n : Nat} {ls : List Int} {sl : Value} (hsl : RdS A0 3 n (ints ls) sl) (hn : n < 1000000) (hg : g ≤ A0.n) {T : List Value} (t2 : tget T 2 = sl) (t13 : tget T 13 = .slice none 0 0) (t14 : tget T 14 = .int .i64 0)
    (hQ : ∀ T' A' sv, Ext' A0 A' → AccS A0.n A' 3 (ints ls) sv → tget T' 13 = sv → (∀ t, t = 2 ∨ t = 3 ∨ t = 7 ∨ t = 10 → tget T' t = tget T t) → Q (.exit 0) ⟨T', D, A'⟩) : W AP KL g rd (.loop body281) ⟨T, D, A0⟩ Q :=
  loop281 hsl hn hg rfl hQ n 0 (.slice none 0 0) (by omega) ⟨Nat.le_refl _, fun _ _ => rfl⟩ (by simp [ints]; exact AccS.nil) t2 t13 t14 (fun _ _ => rfl)
theorem _root_.Go.Ab.RdS.setG {A : Hp} {k n X m : Nat} {zs : List Int} {sv a b c : Value} {p : Option Addr} {c' : Nat} {ro : Bool} {b' : Option ABlk} (h : RdS A k n (ints zs) sv) (hx : A.get X = some (.cells [a, b, c, .slice p m c'] ro)) : RdS (A.set X b') k n (ints zs) sv := by
  obtain ⟨h0, h1⟩ := h
  refine ⟨h0, ?_⟩
  rcases h1 with h1 | ⟨y, q, r, h1, h2⟩
  · exact .inl h1
  · refine .inr ⟨y, q, r, h1, ?_⟩
    rw [get_set_ne (Hp.lt_of_get hx) (fun e => ?_)]
    · exact h2
    · subst e
      rw [hx] at h2
      simp only [Option.some.injEq, ABlk.cells.injEq] at h2
      have : Value.slice p m c' ∈ ints zs := by rw [← h2.1]; simp
      simp [ints] at this
theorem rest281 {x y : G} {px cx py cy} {sl : Value} {n X3 X4 : Nat} {ls : List Int} {A : Hp} {T : List Value} (rx : RdS A 2 x.m (ints x.zs) (.slice px x.m cx)) (ry : RdS A 2 y.m (ints y.zs) (.slice py y.m cy)) (hsl : RdS A 3 n (ints ls) sl) (hmx : x.m < 1000000) (hmy : y.m < 1000000) (hn : n < 1000000) (hg : g ≤ A.n)
    (h3 : A.get X3 = some (.cells [.int .i64 x.w, .int .i64 x.h, .int .i64 x.s, .slice px x.m cx] false)) (h4 : A.get X4 = some (.cells [.int .i64 y.w, .int .i64 y.h, .int .i64 y.s, .slice py y.m cy] false))
    (t2 : tget T 2 = sl) (t3 : tget T 3 = .pointer (some ⟨X3, 0, none⟩)) (t4 : tget T 4 = .pointer (some ⟨X4, 0, none⟩)) (hV : ∀ A', V (.bool true) A') :
    W AP KL g none pr281 ⟨T, [], A⟩ (FinQ [.tmp 6] V) := by
  have n3 := Hp.lt_of_get h3
  have n4 := Hp.lt_of_get h4
  simp (disch := as_aux_lemma => first | omega | simp only [hDs] <;> omega | simp [isCell]) [hRs, takeMarks, resA, resAll, resOne, Value.cells, pr281, t2, t3, t4, h3, h4]
  refine w299 (x := x) (y := y) ⟨_, rfl, rx⟩ ⟨_, rfl, ry⟩ hmx hmy hg fun A1 v1 e1 hv1 => ?_
  obtain ⟨vg1, rfl, s1, rfl, r1⟩ := hv1
  obtain ⟨p1, c1, rfl⟩ := r1.isSlice'
  have n1 := e1.1
  simp (disch := as_aux_lemma => first | omega | simp only [hDs] <;> omega | simp [isCell]) [hRs, takeMarks, resA, resAll, resOne, Value.cells, gridV, storeB_cells, setRange_all, set_push_eq, t3, t4, e1.get h3, e1.get h4]
  have f1 := Ext'.push A1 (.cells [.int .i64 (narF x y).1.w, .int .i64 (narF x y).1.h, .int .i64 (narF x y).1.s, .slice p1 (narF x y).1.m c1] false)
  have e1' := e1.trans f1
  refine w300 (x := x) (y := y) ⟨_, rfl, e1'.rdS rx⟩ ⟨_, rfl, e1'.rdS ry⟩ hmx hmy (by simp; omega) fun A2 v2 e2 hv2 => ?_
  obtain ⟨vg2, rfl, s2, rfl, r2⟩ := hv2
  obtain ⟨p2, c2, rfl⟩ := r2.isSlice'
  have n2 : A1.n + 1 ≤ A2.n := e2.1
  obtain ⟨r, hr⟩ : ∃ r, r = narF x y := ⟨_, rfl⟩
  rw [← hr] at r1 r2 ⊢
  have k7 : A2.get A1.n = some (.cells [.int .i64 r.1.w, .int .i64 r.1.h, .int .i64 r.1.s, .slice p1 r.1.m c1] false) := by rw [e2.2 _ (by simp), get_push_eq (by omega), hr]
  have k7n := Hp.lt_of_get k7
  simp (disch := as_aux_lemma => first | omega | simp only [hDs] <;> omega | simp [isCell]) [hRs, takeMarks, resA, resAll, resOne, Value.cells, gridV, storeB_cells, setRange_all, set_push_eq, k7, get_push_old]
  obtain ⟨C, hC⟩ : ∃ C, C = A2.push (.cells [.int .i64 r.1.w, .int .i64 r.1.h, .int .i64 r.1.s, .slice p2 r.1.m c2] false) := ⟨_, rfl⟩
  rw [← hC]
  have eC : Ext' A2 C := by rw [hC]; exact Ext'.push _ _
  have nC : C.n = A2.n + 1 := by rw [hC]; rfl
  have q7 := eC.get k7
  have q10 : C.get A2.n = some (.cells [.int .i64 r.1.w, .int .i64 r.1.h, .int .i64 r.1.s, .slice p2 r.1.m c2] false) := by rw [hC]; exact get_push_new
  have hrm : r.1.m < 1000000 := by
    rw [hr]
    unfold narF
    split
    · split
      · split
        · cases goM (narStep y.zs) y.m 0 x.zs <;> simp [outG, G0, hmx]
        · simp [G0]
      · simp [G0]
    · simp [G0]
  refine w301 (x := r.1) (y := r.1) ⟨_, rfl, (f1.trans (e2.trans eC)).rdS r1⟩ ⟨_, rfl, eC.rdS r2⟩ hrm rfl fun A3 e3 => ?_
  have eA3 := (e1'.trans (e2.trans eC)).trans e3
  have n3' := e3.1
  simp (disch := as_aux_lemma => first | omega | simp only [hDs] <;> omega | simp [isCell]) [hRs, takeMarks, resA, resAll, resOne, Value.cells]
  refine loop281_s (sl := sl) (eA3.rdS hsl) hn (by omega) (by simp [t2]) (by simp) (by simp) fun T' A4 sv e4 hacc t13 hk => ?_
  have s2 := hk 2 (by simp)
  have s3 := hk 3 (by simp)
  have s7 := hk 7 (by simp)
  have s10 := hk 10 (by simp)
  simp [t2] at s2
  simp [t3] at s3
  simp at s7 s10
  have eA4 := eA3.trans e4
  have n4' := e4.1
  obtain ⟨n', hsn⟩ := hacc.rdS
  have hnn : n' = n := by
    have a := hsn.1
    have b := hsl.1
    omega
  subst hnn
  simp (disch := as_aux_lemma => first | omega | simp only [hDs] <;> omega | simp [isCell]) [hRs, takeMarks, resA, resAll, resOne, Value.cells, s2, s3, s7, s10, t13, eA4.get h3]
  refine w302 (x := x) ⟨_, rfl, eA4.rdS rx⟩ hsn hmx hn (by omega) fun A5 v5 e5 hv5 => ?_
  obtain ⟨vg5, rfl, s5, rfl, r5⟩ := hv5
  obtain ⟨p5, c5, rfl⟩ := r5.isSlice'
  have n5 := e5.1
  have j7 := (e3.trans (e4.trans e5)).get q7
  have j10 := (e3.trans (e4.trans e5)).get q10
  obtain ⟨q, hq⟩ : ∃ q, q = meaF x n' ls := ⟨_, rfl⟩
  rw [← hq] at r5 ⊢
  have hqm : q.1.m < 1000000 := by
    rw [hq]
    unfold meaF
    split
    · split
      · split
        · cases goM (meaStep ls) n' 0 x.zs <;> simp [outG, G0, hmx]
        · simp [G0]
      · simp [G0]
    · simp [G0]
  have j7n := Hp.lt_of_get j7
  have j10n := Hp.lt_of_get j10
  obtain ⟨C5, hC5⟩ : ∃ C5, C5 = A5.set A1.n (some (.cells [.int .i64 q.1.w, .int .i64 q.1.h, .int .i64 q.1.s, .slice p5 q.1.m c5] false)) := ⟨_, rfl⟩
  have o5 : ∀ z, z < A5.n → z ≠ A1.n → C5.get z = A5.get z := fun z hz hzn => by rw [hC5]; exact get_set_ne (by omega) hzn
  have nC5 : C5.n = A5.n := by rw [hC5]; rfl
  have eA5 := eA4.trans e5
  have eC5 : Ext' A C5 := ⟨by have := eA5.1; omega, fun z hz => by rw [o5 z (by have := eA5.1; omega) (by omega), eA5.2 z hz]⟩
  have k7' : C5.get A1.n = some (.cells [.int .i64 q.1.w, .int .i64 q.1.h, .int .i64 q.1.s, .slice p5 q.1.m c5] false) := by rw [hC5]; exact get_set_same j7
  have k10' : C5.get A2.n = some (.cells [.int .i64 r.1.w, .int .i64 r.1.h, .int .i64 r.1.s, .slice p2 r.1.m c2] false) := by rw [o5 _ j10n (by omega)]; exact j10
  simp (disch := as_aux_lemma => first | omega | simp only [hDs] <;> omega | simp [isCell]) [hRs, takeMarks, resA, resAll, resOne, Value.cells, gridV, storeB_cells, setRange_all, s2, s3, s7, s10, j7, ← hC5, eC5.get h3]
  have r5' : RdS C5 2 q.1.m (ints q.1.zs) (.slice p5 q.1.m c5) := by rw [hC5]; exact r5.setG j7
  have nA5 := eC5.1
  refine w303 (x := x) ⟨_, rfl, eC5.rdS rx⟩ (eC5.rdS hsl) hmx hn (by omega) fun A6 v6 e6 hv6 => ?_
  rw [← hq] at hv6
  obtain ⟨vg6, rfl, s6, rfl, r6⟩ := hv6
  obtain ⟨p6, c6, rfl⟩ := r6.isSlice'
  have n6 := e6.1
  have i7 := e6.get k7'
  have i10 := e6.get k10'
  have i7n := Hp.lt_of_get i7
  have i10n := Hp.lt_of_get i10
  obtain ⟨C6, hC6⟩ : ∃ C6, C6 = A6.set A2.n (some (.cells [.int .i64 q.1.w, .int .i64 q.1.h, .int .i64 q.1.s, .slice p6 q.1.m c6] false)) := ⟨_, rfl⟩
  have l7 : C6.get A1.n = some (.cells [.int .i64 q.1.w, .int .i64 q.1.h, .int .i64 q.1.s, .slice p5 q.1.m c5] false) := by rw [hC6, get_set_ne (by omega) (by omega)]; exact i7
  have l10 : C6.get A2.n = some (.cells [.int .i64 q.1.w, .int .i64 q.1.h, .int .i64 q.1.s, .slice p6 q.1.m c6] false) := by rw [hC6]; exact get_set_same i10
  simp (disch := as_aux_lemma => first | omega | simp only [hDs] <;> omega | simp [isCell]) [hRs, takeMarks, resA, resAll, resOne, Value.cells, gridV, storeB_cells, setRange_all, s7, s10, i10, ← hC6, l7, l10]
  refine w301 (x := q.1) (y := q.1) ⟨_, rfl, by rw [hC6]; exact (e6.rdS r5').setG i10⟩ ⟨_, rfl, by rw [hC6]; exact r6.setG i10⟩ hqm rfl fun A7 e7 => ?_
  simp (disch := as_aux_lemma => first | omega | simp only [hDs] <;> omega | simp [isCell]) [hRs, takeMarks, resA, resAll, resOne, Value.cells]
  exact hV _
theorem law281 {x y : G} {vx vy sl : Value} {n : Nat} {ls : List Int} (hx : GAt A x vx) (hy : GAt A y vy) (hsl : RdS A 3 n (ints ls) sl) (hg : g ≤ A.n) (hV : ∀ A', V (.bool true) A') : WF AP KL g 281 [vx, vy, sl] A V := by
  obtain ⟨sx, rfl, rx⟩ := hx
  obtain ⟨sy, rfl, ry⟩ := hy
  obtain ⟨px, cx, rfl⟩ := rx.isSlice'
  obtain ⟨py, cy, rfl⟩ := ry.isSlice'
  rw [WF_body (show KL 281 = none from rfl) AP281]
  obtain ⟨B, hB⟩ : ∃ B, B = (A.push (.cells [.int .i64 x.w, .int .i64 x.h, .int .i64 x.s, .slice px x.m cx] false)).push (.cells [.int .i64 y.w, .int .i64 y.h, .int .i64 y.s, .slice py y.m cy] false) := ⟨_, rfl⟩
  have eB : Ext' A B := by rw [hB]; exact (Ext'.push _ _).trans (Ext'.push _ _)
  have nB : B.n = A.n + 2 := by rw [hB]; rfl
  have b0 : B.get A.n = some (.cells [.int .i64 x.w, .int .i64 x.h, .int .i64 x.s, .slice px x.m cx] false) := by rw [hB, get_push_old (by simp), get_push_eq (by omega)]
  have b1 : B.get (A.n + 1) = some (.cells [.int .i64 y.w, .int .i64 y.h, .int .i64 y.s, .slice py y.m cy] false) := by rw [hB, get_push_eq (by simp)]
  have hl := hsl.len
  simp (disch := as_aux_lemma => first | omega | simp only [hDs] <;> omega | simp [isCell]) [hRs, takeMarks, resA, resAll, resOne, Value.cells, pa281, pb281, gridV, ← hB, b0]
  refine w292 (x := x) ⟨_, rfl, eB.rdS rx⟩ (by omega) fun A1 e1 => ?_
  have n1 := e1.1
  by_cases hx60 : (60 : Int) < x.m
  · simp (disch := as_aux_lemma => first | omega | simp only [hDs] <;> omega | simp [isCell]) [hRs, takeMarks, resA, resAll, resOne, Value.cells, pb281, hx60]
    exact hV _
  · simp (disch := as_aux_lemma => first | omega | simp only [hDs] <;> omega | simp [isCell]) [hRs, takeMarks, resA, resAll, resOne, Value.cells, hx60, e1.get b1]
    refine w292 (x := y) ⟨_, rfl, (eB.trans e1).rdS ry⟩ (by omega) fun A2 e2 => ?_
    have n2 := e2.1
    by_cases hy60 : (60 : Int) < y.m
    · simp (disch := as_aux_lemma => first | omega | simp only [hDs] <;> omega | simp [isCell]) [hRs, takeMarks, resA, resAll, resOne, Value.cells, hy60]
      exact hV _
    · by_cases hn1 : (60 : Int) < n ∧ (n : Int) ≤ 4096
      · simp (disch := as_aux_lemma => first | omega | simp only [hDs] <;> omega | simp [isCell]) [hRs, takeMarks, resA, resAll, resOne, Value.cells, hy60, hl, hn1.1, hn1.2]
        exact hV _
      · by_cases hn2 : (4100 : Int) < n
        · by_cases h60 : (60 : Int) < n
          · simp (disch := as_aux_lemma => first | omega | simp only [hDs] <;> omega | simp [isCell]) [hRs, takeMarks, resA, resAll, resOne, Value.cells, hy60, hl, h60, show ¬ (n : Int) ≤ 4096 by omega, hn2]
            exact hV _
          · omega
        · have e12 := e1.trans e2
          have e02 := eB.trans e12
          have e12' := e12
          by_cases h60 : (60 : Int) < n
          · simp (disch := as_aux_lemma => first | omega | simp only [hDs] <;> omega | simp [isCell]) [hRs, takeMarks, resA, resAll, resOne, Value.cells, hy60, hl, h60, show ¬ (n : Int) ≤ 4096 by omega, hn2]
            exact rest281 (e02.rdS rx) (e02.rdS ry) (e02.rdS hsl) (by omega) (by omega) (by omega) (by omega) (e12.get b0) (e12.get b1) (by simp) (by simp) (by simp) hV
          · simp (disch := as_aux_lemma => first | omega | simp only [hDs] <;> omega | simp [isCell]) [hRs, takeMarks, resA, resAll, resOne, Value.cells, hy60, hl, h60, hn2]
            exact rest281 (e02.rdS rx) (e02.rdS ry) (e02.rdS hsl) (by omega) (by omega) (by omega) (by omega) (e12.get b0) (e12.get b1) (by simp) (by simp) (by simp) hV
end
end Go.Ab.Grid
set_option maxRecDepth 100000
namespace Go.Ab.Grid
open Go Go.Ab Go.Proofs Go.Shelf Go.ChangeShapes Go.WideShapes Go.ChangeAt Go.RowKit Go.Proofs.YtmppgcknmmmioaaGreatDoor
theorem isFn' (f nt : Nat) (rs : List ARes) (c : ACode) {W0 : Array Obj} (h : AP f = some (.fn nt rs c)) : ∃ nt rs body, (E W0).AP f = some (.fn nt rs body) := ⟨nt, rs, c, h⟩
theorem own : ownKnob Tryz.prog.godebug = none := by kernel_rfl
theorem laidOut : laidOutB Tryz.prog = true := by kernel_rfl
abbrev laidL : List (String × DataW Unit) := Rows.gridNearsRow.laid
theorem white {w : World} : Lib.VarReads Tryz.prog w "unicode.White_Space" Lib.whiteData → Lib.WhiteTab 1 w := fun h =>
  whiteTab_of_reads (ρ := Tryz.lays157_ren) { Tryz.lays157 with } { n6 := by kernel_rfl, y6 := by kernel_rfl, c3 := by kernel_rfl, c49 := by kernel_rfl, c193 := by kernel_rfl, c194 := by kernel_rfl, c196 := by kernel_rfl, c198 := by kernel_rfl } h
theorem var_heap {w : World} {n : String} {g : Nat} {cs : Array Value} (hg : Tryz.prog.globalNamed n = some g) (h : w.var? Tryz.prog n = some cs) : ∃ t fr, w.heap[g]? = some (.cells cs t fr) := by
  unfold World.var? at h
  rw [hg] at h
  simp only [Option.bind_some] at h
  split at h
  · rename_i cs' t fr he; cases h; exact ⟨t, fr, he⟩
  · cases h
theorem laidW_of {w : World} (hm : laidMet Tryz.prog laidL w) (hs : w.ShapedOpen Tryz.prog) : LaidW w := by
  have hp := Lib.laidMet.reads hm (d := Rows.laid_internal_strconv_uint64pow10) (List.mem_cons_of_mem _ (List.mem_cons_of_mem _ List.mem_cons_self))
  have hr := Lib.laidMet.reads hm (d := Rows.laid_strconv_ErrRange) (List.mem_cons_of_mem _ (List.mem_cons_of_mem _ (List.mem_cons_of_mem _ List.mem_cons_self)))
  have hy := Lib.laidMet.reads hm (d := Rows.laid_strconv_ErrSyntax) (List.mem_cons_of_mem _ (List.mem_cons_of_mem _ (List.mem_cons_of_mem _ (List.mem_cons_of_mem _ List.mem_cons_self))))
  have hw := Lib.laidMet.reads hm (d := Rows.laid_unicode_White_Space) (List.mem_cons_of_mem _ (List.mem_cons_of_mem _ (List.mem_cons_of_mem _ (List.mem_cons_of_mem _ (List.mem_cons_of_mem _ List.mem_cons_self)))))
  have ha := Lib.laidMet.reads hm (d := Rows.laid_strings_asciiSpace) (List.mem_cons_of_mem _ (List.mem_cons_of_mem _ (List.mem_cons_of_mem _ (List.mem_cons_of_mem _ (List.mem_cons_of_mem _ (List.mem_cons_of_mem _ List.mem_cons_self))))))
  have iface : ∀ {n : String} {nm : String} {d : DataW Unit} {g : Nat} {t : TypeId} {ms : Array (String × TypeId)}, Tryz.prog.globalNamed n = some g → (Tryz.prog.globals[g]?).map (·.type) = some t → Tryz.prog.underlying t = some (.interface ms) →
      Lib.VarReads Tryz.prog w n (.iface nm d) → ∃ ev, w.cell? ⟨g, 0, none⟩ = some ev ∧ (ev = .nilIface ∨ ∃ te pe, ev = .iface te pe) := by
    intro n nm d g t ms hg ht hu h
    obtain ⟨g', t', cs, fuel, p, hg', ht', hv, hd⟩ := h
    obtain rfl := Option.some.inj (hg.symm.trans hg')
    obtain rfl := Option.some.inj (ht.symm.trans ht')
    obtain ⟨_, u, v, hcs, _, _⟩ := iface_of_trod hu hd
    have := World.var?_cell hg hv 0
    rw [← Array.getElem?_toList, hcs] at this
    exact ⟨_, this, .inr ⟨u, v, rfl⟩⟩
  have tab : ∀ {n : String} {k : IntKind} {zs : List Int} {g : Nat} {t e : TypeId} {N : Nat}, Tryz.prog.globalNamed n = some g → (Tryz.prog.globals[g]?).map (·.type) = some t → Tryz.prog.underlying t = some (.array N e) →
      Tryz.prog.underlying e = some (.int k) → Tryz.prog.cellsOf e = 1 → Tryz.prog.cellsOf t = N → Lib.VarReads Tryz.prog w n (Lib.tabData k zs) → ∃ t fr, w.heap[g]? = some (.cells (zs.map fun z => Value.int k z).toArray t fr) := by
    intro n k zs g t e N hg ht hu he hce hct h
    obtain ⟨g', t', cs, fuel, p, hg', ht', hv, hd⟩ := h
    obtain rfl := Option.some.inj (hg.symm.trans hg')
    obtain rfl := Option.some.inj (ht.symm.trans ht')
    have hcs := Lib.cells_of_tab hu he hce hct hd
    obtain ⟨t, fr, h⟩ := var_heap hg hv
    exact ⟨t, fr, by rw [h, ← hcs]⟩
  refine ⟨?_, ?_, ?_, ?_, ?_, white hw⟩
  · exact cell_of_shapedOpen_int (zero := #[.int .i64 0]) (t := 3) hs (of_decide_eq_true (by kernel_rfl)) (by kernel_rfl) rfl (by kernel_rfl) (by kernel_rfl) Tryz.underlying3
  · exact iface (by kernel_rfl) (by kernel_rfl) Tryz.underlying122 hy
  · exact iface (by kernel_rfl) (by kernel_rfl) Tryz.underlying122 hr
  · exact tab (by kernel_rfl) (by kernel_rfl) Tryz.underlying207 (by kernel_rfl) (by kernel_rfl) (by kernel_rfl) ((show Rows.laid_internal_strconv_uint64pow10 = Lib.tabData .u64 Lib.pow10Tab by kernel_rfl) ▸ hp)
  · exact tab (by kernel_rfl) (by kernel_rfl) Tryz.underlying153 (by kernel_rfl) (by kernel_rfl) (by kernel_rfl) ((show Rows.laid_strings_asciiSpace = Lib.tabData .u8 Lib.asciiSpaceTab by kernel_rfl) ▸ ha)
section
variable {H : Type} {enc : TypeId × Value → H} {os : Os}
theorem laid_all (args : Array Value) : laidMetH Tryz.prog laidL ((World.laidAll Tryz.prog os laidL).forCall (fun _ _ => 0) ⟨#[], args, []⟩).memory := by
  rw [MakeChecks.laidMetH_plain _ _ _ (by kernel_rfl)]
  exact laidMet_laidAll _ (by kernel_rfl) (by kernel_rfl)
theorem laid_shaped (args : Array Value) : ((World.laidAll Tryz.prog os laidL).forCall (fun _ _ => 0) ⟨#[], args, []⟩).Shaped Tryz.prog := World.shaped_of_ZipB (by kernel_rfl) (by kernel_rfl)
theorem returns_laid {f : FuncId} {fn : Func} {s : ChangeSpec} (started : os.Started) (noInit : Tryz.checked.prog.inits.idxOf? f = none) (hfn : Tryz.checked.prog.funcs[f]? = some fn) (args0 : Array Value)
    (hok : Input.okWideB Tryz.checked.prog ((World.laidAll Tryz.prog os laidL).forCall (fun _ _ => 0) ⟨#[], args0, []⟩) f ⟨#[], args0, []⟩ = true)
    (hpre : s.preB enc Tryz.checked.prog fn [] false ((World.laidAll Tryz.prog os laidL).forCall (fun _ _ => 0) ⟨#[], args0, []⟩).memory args0 8 = true)
    (hsz : s.sizedB enc Tryz.checked.prog fn false ((World.laidAll Tryz.prog os laidL).forCall (fun _ _ => 0) ⟨#[], args0, []⟩).memory args0 8 = true)
    (contract : ∀ (W : World) (base : Nat) (args : Array Value) (ds gs : List (DataW H)) (before : List MemPlace),
      (∀ (j : Nat) t v, fn.params[j]? = some t → args[j]? = some v → Value.okWide Tryz.prog W .any base t v) →
      DataW.Whole enc Tryz.prog fn.params.toList s.vars false W args.toList ds gs before → LaidW W →
      Calls Tryz.prog f args W fun e W' => ∃ v, e = .returned v ∧ s.post enc Tryz.prog fn false true false false W args v W') :
    ReturnsInHanded {} Tryz.checked os f .any (fun w args => (s.pre enc Tryz.checked.prog fn [] false w args ∧ laidMetH Tryz.checked.prog laidL w) ∧ sizedMet enc Tryz.checked.prog fn (OpenSpec.ofChange s) false w args)
      (s.post enc Tryz.checked.prog fn false true false false) := by
  refine returnsInHanded_of_calls (C := Tryz.checked) own started noInit
    (ChangeSpec.witness_shaped (enc := enc) (C := Tryz.checked) (os := os) (s := s) (X := fun w _ => laidMetH Tryz.prog laidL w) false (World.laidAll Tryz.prog os laidL) args0 8 (World.laidAll_os _ _ _) (laid_shaped args0) hok hpre hsz (laid_all args0)) ?_
  intro w tape i _ hsh _ hok hpre _
  obtain ⟨_, _, _, fn', hfn', _, _, _, _, hval⟩ := hok
  have e : fn' = fn := Option.some.inj (hfn'.symm.trans hfn)
  subst e
  obtain ⟨⟨⟨ds, gs, before, hw, _⟩, hx⟩, _⟩ := hpre
  have hw' := DataW.Whole.of_heap (w' := w.forCall tape i) (by rfl) hw
  have hx' : laidMet Tryz.prog laidL (w.forCall tape i) := by
    have hx1 : laidMetH Tryz.prog laidL (w.forCall tape i).memory := hx
    rw [MakeChecks.laidMetH_plain _ _ _ (by kernel_rfl)] at hx1
    exact hx1.of_heap (by rfl)
  refine (contract (w.forCall tape i) w.heap.size i.args ds gs before hval hw' (laidW_of hx' hsh)).mono fun e W' ⟨v, he, hp⟩ => ?_
  subst he
  exact ChangeSpec.post_blind hp
end
end Go.Ab.Grid
set_option maxRecDepth 100000
namespace Go.Ab.Grid
open Go Go.Ab
def tGrid : Ty := .pair (.int .i64) (.pair (.int .i64) (.pair (.int .i64) (.pair (.slice (.rep 2 (.int .i64))) .unit)))
theorem sh_grid {rows : List (List Value)} {cs : List Value} (h : Sh rows tGrid cs) :
    ∃ (w h s : Int) (m : Nat) (zs : List Int) (sl : Value), mkV tGrid cs = gridV w h s sl ∧ RdS (roHp rows) 2 m (ints zs) sl ∧ m ≤ maxLen ∧ (∀ z ∈ zs, -9223372036854775808 ≤ z ∧ z ≤ 9223372036854775807) := by
  obtain ⟨_, _, rfl, h1, ⟨_, _, rfl, h2, ⟨_, _, rfl, h3, ⟨_, _, rfl, h4, rfl⟩⟩⟩⟩ := h
  obtain ⟨a1, rfl, b1⟩ := sh_int h1
  obtain ⟨a2, rfl, b2⟩ := sh_int h2
  obtain ⟨a3, rfl, b3⟩ := sh_int h3
  obtain ⟨n, zs, sl, rfl, r, m, b⟩ := sh_slice_k (k := .i64) rfl h4
  exact ⟨a1, a2, a3, n, zs, sl, rfl, r, m, b⟩
end Go.Ab.Grid
