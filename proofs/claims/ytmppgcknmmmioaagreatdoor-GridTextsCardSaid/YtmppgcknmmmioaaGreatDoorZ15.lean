/- Read, whole. -/
import Derived.Test.YtmppgcknmmmioaaGreatDoorZ14
set_option linter.unusedSimpArgs false
set_option linter.unusedVariables false
set_option linter.unusedSectionVars false
set_option maxRecDepth 100000
namespace Go.Ab.Grid
open Go Go.Ab
def body306a : ACode := (.seq
 (.ops [
oB 32 .lss 31 30])
 (.seq
 (.cond (.t 32)
 .skip
 (.exit 0))
 (.seq
 (.block 1
 (.seq
 (.ops [
oM 33 31,
oM 7 33])
 (.seq
 (.ops [
oP 8 (.move (.k (.slice none 0 0)))])
 (.seq
 (.seq
 (.ops [
oF 34 1 3,
oL 35 34,
oM 36 7,
oF 37 1 0,
oL 38 37,
oB 39 .mul 36 38,
oM 40 7,
oC 41 .add 40 1,
oF 42 1 0,
oL 43 42,
oB 44 .mul 41 43,
oP 45 (.reslice (.t 35) (some (.t 39)) (some (.t 44)) 2),
oP 46 (.len (.t 45)),
oP 47 (.move (oK 0))])
 (.block 2
 (.loop
 (.seq
 (.ops [
oB 48 .lss 47 46])
 (.seq
 (.cond (.t 48)
 .skip
 (.exit 2))
 (.seq
 (.block 3
 (.seq
 (.ops [
oI 49 45 47 2,
oD 50 49 2,
oP 10 (.alloc [.int .i64 0, .int .i64 0]),
oT 10 50 2])
 (.ops [
oM 51 8,
oD 52 10 2,
oA 53 339 [.t 52] false,
⟨some 54, none, [], .slit 1 1 [.string ⟨⟨[]⟩⟩] [(0, .t 53)]⟩,
oP 55 (.append (.t 51) (.t 54) 1 16),
oM 8 55])))
 (.ops [
oC 56 .add 47 1,
oM 47 56])))))))
 (.ops [
oM 57 6,
oM 58 8,
oP 59 (.call (.t 57) [.t 58] false)])))))
 (.ops [
oC 60 .add 31 1,
oM 31 60]))))
def rowW (w : Nat) (zs : List Int) (y : Nat) : Nat → List (List UInt8)
  | 0 => []
  | i + 1 => rowW w zs y i ++ [wordL (gi zs (y * w * 2 + i * 2)) (gi zs (y * w * 2 + i * 2 + 1))]
theorem rowW_len {w y : Nat} {zs : List Int} : ∀ {i : Nat}, (rowW w zs y i).length = i
  | 0 => rfl
  | i + 1 => by rw [rowW, List.length_append, rowW_len]; rfl
theorem rowW_mem {w y : Nat} {zs : List Int} {x : List UInt8} : ∀ {i : Nat}, x ∈ rowW w zs y i → ∃ j, j < i ∧ x = wordL (gi zs (y * w * 2 + j * 2)) (gi zs (y * w * 2 + j * 2 + 1))
  | 0, h => by simp [rowW] at h
  | i + 1, h => by
    rw [rowW, List.mem_append] at h
    rcases h with h | h
    · obtain ⟨j, h1, h2⟩ := rowW_mem h
      exact ⟨j, by omega, h2⟩
    · exact ⟨i, by omega, by simpa using h⟩
def headL (w h s : Int) : List UInt8 := lineL [[103, 114, 105, 100], itoaA w, itoaA h, itoaA s]
def rowsL (w : Nat) (zs : List Int) : Nat → List UInt8
  | 0 => []
  | y + 1 => rowsL w zs y ++ lineL (rowW w zs y w)
def textL (w h s : Int) (zs : List Int) : List UInt8 := headL w h s ++ rowsL w.toNat zs h.toNat
theorem join_bound {ws : List (List UInt8)} {k : Nat} (h : ∀ w, w ∈ ws → w.length ≤ k) : (Lib.join ws [32]).length ≤ ws.length * (1 + k) := by
  cases ws with
  | nil => simp [Lib.join_nil]
  | cons x l =>
    rw [Lib.join_cons, List.length_append]
    have h1 := h x (List.mem_cons_self ..)
    have h2 := joinTail_bound (sep := [32]) (k := k) (ws := l) fun w hw => h w (List.mem_cons_of_mem _ hw)
    simp only [List.length_cons, List.length_nil, Nat.add_mul, Nat.zero_add, Nat.one_mul] at h2 ⊢
    omega
theorem row_bound {w y : Nat} {zs : List Int} (hw : w ≤ 24) : (Lib.join (rowW w zs y w) [32]).length ≤ 1080 := by
  have := join_bound (ws := rowW w zs y w) (k := 44) fun x hx => by
    obtain ⟨j, _, rfl⟩ := rowW_mem hx
    exact wordL_len _ _
  rw [rowW_len] at this
  omega
theorem head_bound {w h s : Int} : (Lib.join [[103, 114, 105, 100], itoaA w, itoaA h, itoaA s] [32]).length ≤ 88 := by
  have := join_bound (ws := [[103, 114, 105, 100], itoaA w, itoaA h, itoaA s]) (k := 21) fun x hx => by
    have a := itoaA_len w
    have b := itoaA_len h
    have c := itoaA_len s
    simp at hx
    rcases hx with rfl | rfl | rfl | rfl
    · simp
    · exact a
    · exact b
    · exact c
  simpa using this
theorem rowsL_len {w : Nat} {zs : List Int} (hw : w ≤ 24) : ∀ {y : Nat}, (rowsL w zs y).length ≤ y * 1081
  | 0 => by simp [rowsL]
  | y + 1 => by
    have a := rowsL_len (w := w) (zs := zs) hw (y := y)
    have b := row_bound (w := w) (y := y) (zs := zs) hw
    rw [rowsL, List.length_append, lineL, List.length_append]
    simp
    omega
theorem headL_len {w h s : Int} : (headL w h s).length ≤ 89 := by
  have := head_bound (w := w) (h := h) (s := s)
  unfold headL lineL
  simp at this ⊢
  omega
theorem resliceA_both {b o c n esz : Nat} {i j : Int} (h0 : 0 ≤ i) (h1 : i ≤ j) (h2 : j ≤ n) : resliceA esz (.slice (some ⟨b, o, some esz⟩) n c) (some i) (fun _ => some j) = some (.slice (some ⟨b, o + i.toNat * esz, some esz⟩) (j - i).toNat (Max.max n c - i.toNat)) := by
  simp only [resliceA]
  rw [if_pos ⟨trivial, h0, h1, by omega⟩]
section
variable {g : Nat} {rd : Option Nat} {T : List Value} {D : List Nat} {A : Hp} {Q : Ex → St → Prop} {V : Value → Hp → Prop}
theorem w340 {X : Nat} {l : List UInt8} (hB : BldS A X l) (hl : 0 < l.length ∧ l.length ≤ 1000000) (hg : g ≤ X) (hV : ∀ A', (∀ z, z ≤ X → A'.get z = A.get z) → A'.n = A.n → V (strV l) A') : WF AP KL g 340 [.pointer (some ⟨X, 0, none⟩)] A V := by
  rw [WF_spec (show KL 340 = some S340 from rfl)]
  obtain ⟨p, v, h1, h2, ⟨_, h3⟩ | ⟨y, c, rfl, hy, hXy, _⟩⟩ := hB
  · subst h3; exact absurd hl.1 (by simp)
  · unfold S340
    simp only [h1, hy]
    rw [if_pos ⟨by omega, trivial, hl.1, by unfold room; omega⟩]
    exact hV _ (fun z hz => get_set_ne (Hp.lt_of_get hy) (by omega)) (by simp)
theorem loop306b {wd y gb cap N : Nat} {zs : List Int} {gr : Bool} {A0 : Hp} {T0 : List Value} (hW : wd ≤ 24) (hg : g ≤ N) (hgb : A0.get gb = some (.cells (ints zs) gr)) (hgbN : gb < N) (hzl : y * wd * 2 + wd * 2 ≤ zs.length) (hzr : ∀ i, -1200000 ≤ gi zs i ∧ gi zs i ≤ 1200000)
    (hQ : ∀ T' A' sv, (∀ z, z < N → A'.get z = A0.get z) → N ≤ A'.n → AccS N A' 1 ((rowW wd zs y wd).map strV) sv → tget T' 8 = sv → (∀ t, t = 1 ∨ t = 5 ∨ t = 6 ∨ t = 30 ∨ t = 31 → tget T' t = tget T0 t) → Q (.exit 2) ⟨T', D, A'⟩) :
    ∀ (k i : Nat) {T : List Value} {A : Hp} (sv : Value), i + k = wd → (∀ z, z < N → A.get z = A0.get z) → N ≤ A.n → AccS N A 1 ((rowW wd zs y i).map strV) sv → tget T 8 = sv → tget T 45 = .slice (some ⟨gb, y * wd * 2, some 2⟩) wd cap → tget T 46 = .int .i64 wd → tget T 47 = .int .i64 i →
      (∀ t, t = 1 ∨ t = 5 ∨ t = 6 ∨ t = 30 ∨ t = 31 → tget T t = tget T0 t) → W AP KL g rd (.loop body306b) ⟨T, D, A⟩ Q := by
  intro k
  obtain ⟨off, hoff⟩ : ∃ off, off = y * wd * 2 := ⟨_, rfl⟩
  rw [← hoff] at hzl ⊢
  induction k with
  | zero =>
    intro i T A sv hi hb hNA hacc t8 t45 t46 t47 hk
    have : i = wd := by omega
    subst this
    rw [W_loop]
    simp (disch := as_aux_lemma => first | omega | simp only [hDs] <;> omega | simp [isCell]) [hRs, takeMarks, resA, resAll, resOne, Value.cells, body306b, t46, t47]
    refine hQ _ _ sv hb hNA hacc (by simp [t8]) fun t ht => ?_
    rw [← hk t ht]
    rcases ht with rfl | rfl | rfl | rfl | rfl <;> simp
  | succ k ih =>
    intro i T A sv hi hb hNA hacc t8 t45 t46 t47 hk
    have hiw : i < wd := by omega
    have e5 : wr .i64 ((i : Int) + 1) = ((i + 1 : Nat) : Int) := by rw [wrId (by omega) (by omega)]; simp
    have agb : A.get gb = some (.cells (ints zs) gr) := by rw [hb gb hgbN]; exact hgb
    have r1 := hzr (off + i * 2)
    have r2 := hzr (off + i * 2 + 1)
    obtain ⟨B, hB⟩ : ∃ B, B = A.push (.cells [.int .i64 (gi zs (off + i * 2)), .int .i64 (gi zs (off + i * 2 + 1))] false) := ⟨_, rfl⟩
    have eB : Ext' A B := by rw [hB]; exact Ext'.push _ _
    have nB : B.n = A.n + 1 := by rw [hB]; rfl
    have b10 : B.get A.n = some (.cells [.int .i64 (gi zs (off + i * 2)), .int .i64 (gi zs (off + i * 2 + 1))] false) := by rw [hB]; exact get_push_new
    rw [W_loop]
    simp (disch := as_aux_lemma => first | omega | simp only [hDs] <;> omega | simp [isCell]) [hRs, takeMarks, resA, resAll, resOne, Value.cells, body306b, t8, t45, t46, t47, show ((i : Int) < wd) by omega, hiw, idxSA_ok, agb, ints_two (show off + i * 2 + 2 ≤ zs.length by omega), fillA, storeB_cells, setRange, set_push_eq, setRange_all, ← hB, b10]
    refine w339 r1 r2 fun A1 e1 => ?_
    have n1 := (eB.trans e1).1
    obtain ⟨wl, hwl⟩ : ∃ wl, wl = wordL (gi zs (off + i * 2)) (gi zs (off + i * 2 + 1)) := ⟨_, rfl⟩
    rw [← hwl]
    obtain ⟨sv', A2, a1, a2, a3, a4⟩ := append_acc (g := g) (bytes := 16) (y := A1.n) (A := A1.push (.cells [strV wl] false)) (new := [strV wl]) (ro := false) (n := i)
      ((hacc.mono (eB.trans e1).2).mono (Ext'.push A1 _).2) hg (by simp; omega) get_push_new rfl (by decide) rfl (by rw [List.length_map, rowW_len]; omega) (by unfold room; omega)
    rw [show (rowW wd zs y i).map strV ++ [strV wl] = (rowW wd zs y (i + 1)).map strV by rw [rowW, List.map_append, hwl, hoff]; rfl] at a2
    simp (disch := as_aux_lemma => first | omega | simp only [hDs] <;> omega | simp [isCell]) [hRs, takeMarks, resA, resAll, resOne, Value.cells, slitA, fillA, setRange, zeros, a1, t8, t47, e5]
    refine ih (i + 1) sv' (by omega) (fun z hz => by rw [a3 z hz, get_push_old (by omega), (eB.trans e1).2 z (by omega), hb z hz]) (by rw [a4]; simp; omega) a2 ?_ ?_ ?_ ?_ (fun t ht => ?_)
    · simp
    · simp [t45]
    · simp [t46]
    · simp
    · rw [← hk t ht]
      rcases ht with rfl | rfl | rfl | rfl | rfl <;> simp
theorem loop306a {wd ht gb cap X1 X5 : Nat} {zs : List Int} {gr : Bool} {A0 : Hp} {w h s : Int} {hd : List UInt8} (hwd : w = (wd : Int)) (hht : h = (ht : Int)) (hW : 1 ≤ wd ∧ wd ≤ 24) (hH : ht ≤ 24) (hg : g ≤ X5) (hgb : A0.get gb = some (.cells (ints zs) gr)) (hgbX : gb < X5) (hX1 : X1 < X5) (hzl : zs.length = ht * wd * 2) (hzr : ∀ i, -1200000 ≤ gi zs i ∧ gi zs i ≤ 1200000) (hhd : hd.length ≤ 89)
    (hG : A0.get X1 = some (.cells [.int .i64 w, .int .i64 h, .int .i64 s, .slice (some ⟨gb, 0, some 2⟩) (ht * wd) cap] false))
    (hQ : ∀ T' A', (∀ z, z < X5 → A'.get z = A0.get z) → X5 ≤ A'.n → BldS A' X5 (hd ++ rowsL wd zs ht) → tget T' 5 = .pointer (some ⟨X5, 0, none⟩) → Q (.exit 0) ⟨T', D, A'⟩) :
    ∀ (k i : Nat) {T : List Value} {A : Hp}, i + k = ht → (∀ z, z < X5 → A.get z = A0.get z) → X5 ≤ A.n → BldS A X5 (hd ++ rowsL wd zs i) → tget T 1 = .pointer (some ⟨X1, 0, none⟩) → tget T 5 = .pointer (some ⟨X5, 0, none⟩) → tget T 6 = .func (.func 335) ⟨[]⟩ ⟨[.pointer (some ⟨X5, 0, none⟩)]⟩ → tget T 30 = .int .i64 ht → tget T 31 = .int .i64 i →
      W AP KL g rd (.loop body306a) ⟨T, D, A⟩ Q := by
  intro k
  subst hwd
  subst hht
  induction k with
  | zero =>
    intro i T A hi hb hXA hB t1 t5 t6 t30 t31
    have : i = ht := by omega
    subst this
    rw [W_loop]
    simp (disch := as_aux_lemma => first | omega | simp only [hDs] <;> omega | simp [isCell]) [hRs, takeMarks, resA, resAll, resOne, Value.cells, body306a, t30, t31]
    exact hQ _ _ hb hXA hB (by simp [t5])
  | succ k ih =>
    intro i T A hi hb hXA hB t1 t5 t6 t30 t31
    have hih : i < ht := by omega
    have e5 : wr .i64 ((i : Int) + 1) = ((i + 1 : Nat) : Int) := by rw [wrId (by omega) (by omega)]; simp
    have aG : A.get X1 = some (.cells [.int .i64 wd, .int .i64 ht, .int .i64 s, .slice (some ⟨gb, 0, some 2⟩) (ht * wd) cap] false) := by rw [hb X1 hX1]; exact hG
    obtain ⟨lo, hlo⟩ : ∃ lo, lo = i * wd := ⟨_, rfl⟩
    obtain ⟨hi', hhi⟩ : ∃ hi', hi' = (i + 1) * wd := ⟨_, rfl⟩
    obtain ⟨tot, htot⟩ : ∃ tot, tot = ht * wd := ⟨_, rfl⟩
    have q1 : hi' = lo + wd := by rw [hhi, hlo, Nat.add_mul]; omega
    have q2 : hi' ≤ tot := by rw [hhi, htot]; exact Nat.mul_le_mul_right _ (by omega)
    have q3 : tot ≤ 576 := by rw [htot]; exact Nat.le_trans (Nat.mul_le_mul hH hW.2) (by decide)
    rw [← htot] at aG hzl
    have m1 : wr .i64 ((i : Int) * (wd : Int)) = (lo : Int) := by rw [← Int.natCast_mul, ← hlo]; exact wrId (by omega) (by omega)
    have m2 : wr .i64 (((i : Int) + 1) * (wd : Int)) = (hi' : Int) := by rw [show ((i : Int) + 1) * (wd : Int) = ((i + 1 : Nat) : Int) * (wd : Int) by simp, ← Int.natCast_mul, ← hhi]; exact wrId (by omega) (by omega)
    have m3 : wr .i64 ((i : Int) + 1) = (i : Int) + 1 := wrId (by omega) (by omega)
    have rs := resliceA_both (b := gb) (o := 0) (c := cap) (n := tot) (esz := 2) (i := (lo : Int)) (j := (hi' : Int)) (by omega) (by omega) (by omega)
    have q4 : ((hi' : Int) - (lo : Int)).toNat = wd := by omega
    rw [q4, Int.toNat_natCast, Nat.zero_add] at rs
    obtain ⟨cap', hcap⟩ : ∃ cap', cap' = Max.max tot cap - lo := ⟨_, rfl⟩
    rw [← hcap] at rs
    rw [W_loop]
    simp (disch := as_aux_lemma => first | omega | simp only [hDs] <;> omega | simp [isCell]) [hRs, takeMarks, resA, resAll, resOne, Value.cells, body306a, t1, t30, t31, show ((i : Int) < ht) by omega, hih, aG, m1, m2, m3, boundA, intOfA, rs]
    refine loop306b (wd := wd) (y := i) (gb := gb) (cap := cap') (N := A.n) (zs := zs) (gr := gr) (A0 := A) (T0 := T) hW.2 (by omega) (by rw [hb gb hgbX]; exact hgb) (by omega) (by rw [← hlo]; omega) hzr (fun T' A1 sv c1 c2 c3 c4 c5 => ?_) wd 0 (.slice none 0 0) (Nat.zero_add _) (fun _ _ => rfl) (Nat.le_refl _) AccS.nil ?_ ?_ ?_ ?_ (fun t ht' => ?_)
    · have e1 : Ext' A A1 := ⟨c2, c1⟩
      have j6 : tget T' 6 = .func (.func 335) ⟨[]⟩ ⟨[.pointer (some ⟨X5, 0, none⟩)]⟩ := (c5 6 (by simp)).trans t6
      have j31 : tget T' 31 = .int .i64 i := (c5 31 (by simp)).trans t31
      have rsl := c3.rd (n := wd) (by rw [List.length_map, rowW_len]; omega) (by decide)
      have hl := rowsL_len (w := wd) (zs := zs) hW.2 (y := i)
      simp (disch := as_aux_lemma => first | omega | simp only [hDs] <;> omega | simp [isCell]) [hRs, takeMarks, resA, resAll, resOne, Value.cells, j6, c4]
      refine w335 (X := X5) (n := wd) (ws := rowW wd zs i wd) rsl (hB.ext e1) hg ⟨by omega, by have := row_bound (w := wd) (y := i) (zs := zs) hW.2; omega, by rw [List.length_append]; omega⟩ fun v A2 d1 d2 d3 => ?_
      simp (disch := as_aux_lemma => first | omega | simp only [hDs] <;> omega | simp [isCell]) [hRs, takeMarks, resA, resAll, resOne, Value.cells, j31, m3]
      refine ih (i + 1) (by omega) (fun z hz => by rw [d3 z hz, e1.2 z (by omega), hb z hz]) (by omega) (by rw [rowsL, ← List.append_assoc]; exact d1) ?_ ?_ ?_ ?_ ?_
      · simp [(c5 1 (by simp)).trans t1]
      · simp [(c5 5 (by simp)).trans t5]
      · simp [j6]
      · simp [(c5 30 (by simp)).trans t30]
      · simp
    · simp
    · simp [hlo]
    · simp
    · simp
    · rcases ht' with rfl | rfl | rfl | rfl | rfl <;> simp
theorem gridE_s {w h s : Int} {m : Nat} {zs : List Int} (h0 : gridE w h s m zs = 0) : 1 ≤ s ∧ s ≤ 10000 := by
  unfold gridE at h0
  split at h0
  · cases h0
  · rename_i h
    by_cases h1 : 1 ≤ s ∧ s ≤ 10000
    · exact h1
    · exact absurd (.inr (.inr (by simp; omega))) h
def WrV (w h s : Int) (m : Nat) (zs : List Int) (t : List UInt8) (e : Int) : Prop := (gridE w h s m zs ≠ 0 ∧ t = [] ∧ e = gridE w h s m zs) ∨ (gridE w h s m zs = 0 ∧ t = textL w h s zs ∧ e = 0)
theorem w306 {w h s : Int} {m : Nat} {zs : List Int} {sl : Value} (hm : m < 1000000) (hsl : RdS A 2 m (ints zs) sl) (hg : g ≤ A.n) (hV : ∀ A' t e, Ext' A A' → WrV w h s m zs t e → V (.tuple ⟨[strV t, .int .i64 e]⟩) A') : WF AP KL g 306 [gridV w h s sl] A V := by
  rw [WF_body (show KL 306 = none from rfl) (show AP 306 = some F306 from rfl)]
  obtain ⟨B, hB⟩ : ∃ B, B = A.push (.cells [.int .i64 w, .int .i64 h, .int .i64 s, sl] false) := ⟨_, rfl⟩
  have eB : Ext' A B := by rw [hB]; exact Ext'.push _ _
  have nB : B.n = A.n + 1 := by rw [hB]; rfl
  have b1 : B.get A.n = some (.cells [.int .i64 w, .int .i64 h, .int .i64 s, sl] false) := by rw [hB]; exact get_push_new
  simp (disch := as_aux_lemma => first | omega | simp only [hDs] <;> omega | simp [isCell]) [hRs, takeMarks, resA, resAll, resOne, Value.cells, F306, gridV, ← hB, b1]
  refine w37 (w := w) (h := h) (s := s) (zs := zs) (eB.rdS hsl) hm fun A1 e1 => ?_
  have n1 := e1.1
  have f1 := eB.trans e1
  by_cases hE : gridE w h s m zs = 0
  · obtain ⟨hw, hh, hmw, hv⟩ := gridE_parts hE
    obtain ⟨wd, rfl⟩ : ∃ wd : Nat, w = (wd : Int) := ⟨w.toNat, by omega⟩
    obtain ⟨ht, rfl⟩ : ∃ ht : Nat, h = (ht : Int) := ⟨h.toNat, by omega⟩
    have hm1 : m = ht * wd := by
      have : (m : Int) = ((ht * wd : Nat) : Int) := by rw [hmw, Int.natCast_mul, Int.mul_comm]
      omega
    have h1m : 0 < m := by rw [hm1]; exact Nat.mul_pos (by omega) (by omega)
    have hzl : zs.length = m * 2 := by have := hsl.1; simpa using this
    have hs := gridE_s hE
    have hzr : ∀ i, -1200000 ≤ gi zs i ∧ gi zs i ≤ 1200000 := fun i => by
      by_cases hi : i < m * 2
      · obtain ⟨j, hj⟩ : ∃ j, i = j * 2 ∨ i = j * 2 + 1 := ⟨i / 2, by omega⟩
        rcases hj with rfl | rfl
        · have := hv j (by omega); omega
        · have := hv j (by omega); omega
      · have : gi zs i = 0 := by simp [gi, List.getD, show zs.length ≤ i by omega]
        omega
    obtain ⟨gb, gc, gr, rfl, hgb⟩ := (f1.rdS hsl).at h1m
    have hgbA : gb < A.n := hsl.blk_lt rfl
    obtain ⟨C, hC⟩ : ∃ C, C = A1.push (.bld (.pointer none) (.slice none 0 0)) := ⟨_, rfl⟩
    have eC : Ext' A1 C := by rw [hC]; exact Ext'.push _ _
    have nC : C.n = A1.n + 1 := by rw [hC]; rfl
    have cX : C.get A1.n = some (.bld (.pointer none) (.slice none 0 0)) := by rw [hC]; exact get_push_new
    have hB0 : BldS C A1.n [] := ⟨_, _, cX, rfl, .inl ⟨rfl, rfl⟩⟩
    simp (disch := as_aux_lemma => first | omega | simp only [hDs] <;> omega | simp [isCell]) [hRs, takeMarks, resA, resAll, resOne, Value.cells, hE, e1.get b1, ← hC, eC.get (e1.get b1)]
    refine w338 (n := (wd : Int)) (by omega) ?_
    simp (disch := as_aux_lemma => first | omega | simp only [hDs] <;> omega | simp [isCell]) [hRs, takeMarks, resA, resAll, resOne, Value.cells, eC.get (e1.get b1)]
    refine w338 (n := (ht : Int)) (by omega) ?_
    simp (disch := as_aux_lemma => first | omega | simp only [hDs] <;> omega | simp [isCell]) [hRs, takeMarks, resA, resAll, resOne, Value.cells, eC.get (e1.get b1)]
    refine w338 (n := s) (by omega) ?_
    obtain ⟨E, hE2⟩ : ∃ E, E = C.push (.cells ([[103, 114, 105, 100], itoaA wd, itoaA ht, itoaA s].map strV) false) := ⟨_, rfl⟩
    have eE : Ext' C E := by rw [hE2]; exact Ext'.push _ _
    have nE : E.n = C.n + 1 := by rw [hE2]; rfl
    have cE : E.get C.n = some (.cells ([[103, 114, 105, 100], itoaA wd, itoaA ht, itoaA s].map strV) false) := by rw [hE2]; exact get_push_new
    have rE : RdS E 1 4 ([[103, 114, 105, 100], itoaA wd, itoaA ht, itoaA s].map strV) (.slice (some ⟨C.n, 0, some 1⟩) 4 4) := ⟨rfl, .inr ⟨C.n, 4, false, rfl, cE⟩⟩
    simp only [List.map_cons, List.map_nil] at hE2
    simp (disch := as_aux_lemma => first | omega | simp only [hDs] <;> omega | simp [isCell]) [hRs, takeMarks, resA, resAll, resOne, Value.cells, slitA, fillA, setRange, show zeros 4 [strV []] = [strV [], strV [], strV [], strV []] from rfl, ← hE2]
    refine w335 (X := A1.n) (n := 4) (ws := [[103, 114, 105, 100], itoaA wd, itoaA ht, itoaA s]) rE (hB0.ext eE) (by omega) ⟨by omega, by have := head_bound (w := (wd : Int)) (h := (ht : Int)) (s := s); omega, by simp⟩ fun v A2 d1 d2 d3 => ?_
    have e3 : Ext' A1 A2 := ⟨by omega, fun z hz => by rw [d3 z hz, (eC.trans eE).2 z hz]⟩
    simp (disch := as_aux_lemma => first | omega | simp only [hDs] <;> omega | simp [isCell]) [hRs, takeMarks, resA, resAll, resOne, Value.cells, (e1.trans e3).get b1]
    refine loop306a (wd := wd) (ht := ht) (gb := gb) (cap := gc) (X1 := A.n) (X5 := A1.n) (zs := zs) (gr := gr) (A0 := A2) (w := (wd : Int)) (h := (ht : Int)) (s := s) (hd := headL wd ht s) rfl rfl (by omega) (by omega) (by omega) (e3.get hgb) (by omega) (by omega) (by rw [hzl, hm1]) hzr headL_len (by rw [← hm1]; exact (e1.trans e3).get b1) (fun T' A3 c1 c2 c3 c5 => ?_) ht 0 (Nat.zero_add _) (fun _ _ => rfl) (by omega) ?_ ?_ ?_ ?_ ?_ ?_
    · have hl := rowsL_len (w := wd) (zs := zs) (by omega) (y := ht)
      have hl2 := headL_len (w := (wd : Int)) (h := (ht : Int)) (s := s)
      have hl3 : 0 < (headL wd ht s).length := by unfold headL lineL; simp
      simp (disch := as_aux_lemma => first | omega | simp only [hDs] <;> omega | simp [isCell]) [hRs, takeMarks, resA, resAll, resOne, Value.cells, c5]
      refine w340 c3 ⟨by rw [List.length_append]; omega, by rw [List.length_append]; omega⟩ (by omega) fun A4 d4 d5 => ?_
      simp (disch := as_aux_lemma => first | omega | simp only [hDs] <;> omega | simp [isCell]) [hRs, takeMarks, resA, resAll, resOne, Value.cells]
      refine hV A4 _ 0 ⟨by omega, fun z hz => by rw [d4 z (by omega), c1 z (by omega), e3.2 z (by omega), f1.2 z hz]⟩ (.inr ⟨hE, ?_, rfl⟩)
      unfold textL
      rw [Int.toNat_natCast, Int.toNat_natCast]
    · simpa [rowsL, headL] using d1
    all_goals simp
  · simp (disch := as_aux_lemma => first | omega | simp only [hDs] <;> omega | simp [isCell]) [hRs, takeMarks, resA, resAll, resOne, Value.cells, hE]
    exact hV _ _ _ f1 (.inl ⟨hE, rfl, rfl⟩)
end
end Go.Ab.Grid
namespace Go.Ab
section
variable {AP : Nat → Option AFunc} {K : Nat → Option Spec} {g : Nat} {T : List Value} {D : List Nat} {A : Hp} {Q : Ex → St → Prop} {V : Value → Hp → Prop}
def RoundP (l : Nat) (r : ALoop) (V : Value → Hp → Prop) (ex : Ex) (st : St) : Prop :=
  (∃ r2, st.A.get l = some (.loop r2) ∧ r2 = { r with state := .busy }) ∧ V (.bool ex.pend.isNone) (st.A.set l (some (.loop { r with state := if ex.pend.isNone then .ready else .done, pending := ex.pend })))
theorem WV_yieldP {l p t : Nat} {v : Value} {body : ACode} {T0 : List Value} (hl : A.get l = some (recL T0 [p] (.ops [⟨some t, none, [], .move (.t p)⟩]) body)) (hg : g ≤ l)
    (hw : W AP K g (some l) body ⟨tset (tset T0 p v) t v, [], A.set l (some (.loop { state := .busy, pending := none, tmps := T0, params := [p], assign := .ops [⟨some t, none, [], .move (.t p)⟩], body := body }))⟩
      (RoundP l { state := .ready, pending := none, tmps := T0, params := [p], assign := .ops [⟨some t, none, [], .move (.t p)⟩], body := body } V)) :
    WV AP K g (.func (.yield l) #[] #[]) [v] A V := by
  obtain ⟨m, d, ex, st2, hr, ⟨r2, hr2, hre⟩, hV⟩ := hw
  subst hre
  refine ⟨m, d + 1, .bool ex.pend.isNone, _, ?_, hV⟩
  have hasg : exec AP K m (d + 1) (.ops [⟨some t, none, [], .move (.t p)⟩]) g (some l) ⟨tset T0 p v, [], A⟩ = some (.normal, ⟨tset (tset T0 p v) t v, [], A⟩) := by
    change (opsA (callV AP K (exec AP K m d)) g [⟨some t, none, [], .move (.t p)⟩] (tset T0 p v) A).map _ = _
    simp [opsA_cons, operA_plain, thenPut_some, opA, ev_t, putA_some]
  have hbody := exec_mono (AP := AP) (K := K) (Nat.le_refl m) (Nat.le_succ d) body g (some l) _ _ hr
  show yieldA (exec AP K m (d + 1)) g l [v] A = _
  unfold yieldA
  rw [hl]
  simp only [recL, List.length_singleton, zipArgs, hg, and_self, if_true]
  rw [hasg]
  simp only [beginRoundA, hl, recL]
  rw [hbody]
  simp only [endRoundA, hr2]
end
end Go.Ab
set_option maxRecDepth 100000
namespace Go.Ab.Grid
open Go Go.Ab
structure PSt where
  w : Int
  h : Int
  s : Int
  zs : List Int
def numV (l : List UInt8) : Option Int := match Lib.atoiAll l with
  | .ok v => some v
  | _ => none
def parseW (head : Bool) (i : Nat) (st : PSt) (wd : List UInt8) : Option PSt :=
  if head = true ∧ i = 0 ∧ wd = [103, 114, 105, 100] then some st
  else match numV (Lib.cut wd [46, 46]).1, numV (if (Lib.cut wd [46, 46]).2.2 = true then (Lib.cut wd [46, 46]).2.1 else (Lib.cut wd [46, 46]).1) with
    | some a, some b => if head = true then (if i = 1 then some { st with w := a } else if i = 2 then some { st with h := a } else if i = 3 then some { st with s := a } else none) else some { st with zs := st.zs ++ [a, b] }
    | _, _ => none
theorem atoiV_cases (l : List UInt8) : ∃ v e, atoiV l = .tuple ⟨[.int .i64 v, e]⟩ ∧ (numV l = some v ∧ e = .nilIface ∨ numV l = none ∧ e = errV) := by
  unfold atoiV numV
  cases Lib.atoiAll l with
  | ok v => exact ⟨v, _, rfl, .inl ⟨rfl, rfl⟩⟩
  | «syntax» => exact ⟨0, _, rfl, .inr ⟨rfl, rfl⟩⟩
  | range => exact ⟨_, _, rfl, .inr ⟨rfl, rfl⟩⟩
theorem strEql {x y : List UInt8} : strOpA .eql (strV x) (strV y) = some (.bool (decide (x = y))) := by
  show some (Value.bool (x == y)) = _
  by_cases h : x = y
  · simp [h]
  · simp [h]
theorem cut_len (s p : List UInt8) : (Lib.cut s p).1.length ≤ s.length ∧ (Lib.cut s p).2.1.length ≤ s.length := by
  unfold Lib.cut
  split
  · simp only [List.length_take, List.length_drop]; omega
  · simp
structure RdA (M X4 : Nat) (G0 : Option Nat) (C : Hp) (st : PSt) (A : Hp) : Prop where
  fr : ∀ z, z < C.n → z ≠ X4 → G0 ≠ some z → A.get z = C.get z
  n : C.n ≤ A.n
  x4 : ∃ sv, A.get X4 = some (.cells [.int .i64 st.w, .int .i64 st.h, .int .i64 st.s, sv] false) ∧ AccS M A 2 (ints st.zs) sv ∧ ∀ z, blkOf sv = some z → G0 = some z ∨ C.n ≤ z
  ev : st.zs.length % 2 = 0
structure RdC (g M X2 X3 X4 X5 : Nat) (G0 : Option Nat) (C : Hp) (head : Bool) : Prop where
  g : g ≤ M ∧ g ≤ X2 ∧ g ≤ X3 ∧ g ≤ X4 ∧ g ≤ X5
  lt : X2 < M ∧ X3 < M ∧ X4 < M ∧ X5 < M
  cn : M ≤ C.n
  g0 : ∀ z, G0 = some z → M ≤ z
  ne : X2 ≠ X3 ∧ X2 ≠ X4 ∧ X2 ≠ X5 ∧ X3 ≠ X4 ∧ X3 ≠ X5 ∧ X4 ≠ X5
  x2 : C.get X2 = some zeroG
  x3 : C.get X3 = some (.cells [.int .i64 0] false)
  x5 : C.get X5 = some (.cells [.bool head] false)
def RdBad (X2 X3 X4 : Nat) (G0 : Option Nat) (C A : Hp) : Prop := C.n ≤ A.n ∧ A.get X2 = some zeroG ∧ A.get X3 = some (.cells [.int .i64 7] false) ∧ ∀ z, z < C.n → z ≠ X4 → z ≠ X3 → G0 ≠ some z → A.get z = C.get z
def pa308 : ACode := (.ops [
oB 29 .lss 28 27])
def pc308 : ACode := (.cond (.t 29)
 .skip
 (.exit 2))
def pd308 : ACode := (.ops [
oM 30 28,
oI 31 26 28 1,
oL 32 31,
oM 7 30,
oM 8 32])
def pe308 : ACode := (.ops [
oM 34 8,
⟨some 35, none, [], .call (.k (.func (.func 344) ⟨[]⟩ ⟨[]⟩)) [.t 34, .k (.string ⟨⟨[46, 46]⟩⟩)] false⟩,
oM 33 35,
oX 36 33 0,
oX 37 33 1,
oX 38 33 2,
oM 9 36,
oM 10 37,
oM 11 38])
def pf308 : ACode := (.seq
 (.ops [
oM 39 11,
oP 40 (.not (.t 39))])
 (.cond (.t 40)
 (.ops [
oM 41 9,
oM 10 41])
 .skip))
def pg308 : ACode := (.ops [
oM 43 9,
oA 44 345 [.t 43] false,
oM 42 44,
oX 45 42 0,
oX 46 42 1,
oM 12 45,
oM 13 46])
def ph308 : ACode := (.ops [
oM 48 10,
oA 49 345 [.t 48] false,
oM 47 49,
oX 50 47 0,
oX 51 47 1,
oM 14 50,
oM 15 51])
def pw308 : ACode := (.seq
 (.ops [
oL 54 5,
oM 55 54,
oN 56 55 true 7,
oQ 57 55 true (.bin .eql (.t 56) (oK 0)),
oP 58 (.pick (.t 55) (.t 57) (.k (.bool false))),
oM 59 58,
oN 60 59 true 8,
⟨some 61, (some (59, true)), [], .strOp .eql (.t 60) (.k (.string ⟨⟨[103, 114, 105, 100]⟩⟩))⟩,
oP 62 (.pick (.t 59) (.t 61) (.k (.bool false))),
oM 53 62])
 (.cond (.t 53)
 .skip
 (.seq
 (.ops [
oM 64 13,
oP 65 (.eqNil 4 true (.t 64)),
oM 66 65,
oN 67 66 false 15,
oQ 68 66 false (.eqNil 4 true (.t 67)),
oP 69 (.pick (.t 66) (.k (.bool true)) (.t 68)),
oM 63 69])
 (.cond (.t 63)
 (.seq
 (.ops [
oP 70 (.build [.int .i64 0, .int .i64 0, .int .i64 0, .slice none 0 0] []),
oT 2 70 4,
⟨none, none, [], .store (.t 3) (.k (.int .i64 7)) 1⟩])
 .ret)
 (.seq
 (.ops [
oL 72 5,
oM 73 72,
oN 74 73 true 7,
oQ 75 73 true (.bin .eql (.t 74) (oK 1)),
oP 76 (.pick (.t 73) (.t 75) (.k (.bool false))),
oM 71 76])
 (.cond (.t 71)
 (.ops [
oM 77 12,
oF 78 4 0,
oT 78 77 1])
 (.seq
 (.ops [
oL 80 5,
oM 81 80,
oN 82 81 true 7,
oQ 83 81 true (.bin .eql (.t 82) (oK 2)),
oP 84 (.pick (.t 81) (.t 83) (.k (.bool false))),
oM 79 84])
 (.cond (.t 79)
 (.ops [
oM 85 12,
oF 86 4 1,
oT 86 85 1])
 (.seq
 (.ops [
oL 88 5,
oM 89 88,
oN 90 89 true 7,
oQ 91 89 true (.bin .eql (.t 90) (oK 3)),
oP 92 (.pick (.t 89) (.t 91) (.k (.bool false))),
oM 87 92])
 (.cond (.t 87)
 (.ops [
oM 93 12,
oF 94 4 2,
oT 94 93 1])
 (.seq
 (.ops [
oL 96 5,
oP 97 (.not (.t 96)),
oM 95 97])
 (.cond (.t 95)
 (.ops [
oF 98 4 3,
oL 99 98,
oM 100 12,
oM 101 14,
oP 102 (.build [.int .i64 0, .int .i64 0] [(0, 1, .t 100), (1, 1, .t 101)]),
oP 103 (.slit 1 2 [.int .i64 0, .int .i64 0] [(0, .t 102)]),
oP 104 (.append (.t 99) (.t 103) 2 16),
oF 105 4 3,
oT 105 104 1])
 (.seq
 (.ops [
oP 52 (.build [.int .i64 0, .int .i64 0, .int .i64 0, .slice none 0 0] []),
oT 2 52 4,
⟨none, none, [], .store (.t 3) (.k (.int .i64 7)) 1⟩])
 .ret)))))))))))))
def pi308 : ACode := (.ops [
oC 106 .add 28 1,
oM 28 106])
theorem body308_eq : body308 = .seq pa308 (.seq pc308 (.seq (.block 3 (.seq pd308 (.seq pe308 (.seq pf308 (.seq pg308 (.seq ph308 (.block 4 pw308))))))) pi308)) := rfl
section
variable {g : Nat} {rd : Option Nat} {T : List Value} {D : List Nat} {A : Hp} {Q : Ex → St → Prop} {V : Value → Hp → Prop}
theorem word308 {M X2 X3 X4 X5 i : Nat} {G0 : Option Nat} {C : Hp} {head : Bool} {st : PSt} {wd : List UInt8} {a b : Int} {e1 e2 : Value} (hC : RdC g M X2 X3 X4 X5 G0 C head) (hA : RdA M X4 G0 C st A) (hi : i < 1000000) (hzl : st.zs.length ≤ 1000000)
    (ha : numV (Lib.cut wd [46, 46]).1 = some a ∧ e1 = .nilIface ∨ numV (Lib.cut wd [46, 46]).1 = none ∧ e1 = errV)
    (hb : numV (if (Lib.cut wd [46, 46]).2.2 = true then (Lib.cut wd [46, 46]).2.1 else (Lib.cut wd [46, 46]).1) = some b ∧ e2 = .nilIface ∨ numV (if (Lib.cut wd [46, 46]).2.2 = true then (Lib.cut wd [46, 46]).2.1 else (Lib.cut wd [46, 46]).1) = none ∧ e2 = errV)
    (t2 : tget T 2 = .pointer (some ⟨X2, 0, none⟩)) (t3 : tget T 3 = .pointer (some ⟨X3, 0, none⟩)) (t4 : tget T 4 = .pointer (some ⟨X4, 0, none⟩)) (t5 : tget T 5 = .pointer (some ⟨X5, 0, none⟩)) (t7 : tget T 7 = .int .i64 i) (t8 : tget T 8 = strV wd) (t12 : tget T 12 = .int .i64 a) (t13 : tget T 13 = e1) (t14 : tget T 14 = .int .i64 b) (t15 : tget T 15 = e2)
    (hok : ∀ T' A' st', parseW head i st wd = some st' → RdA M X4 G0 C st' A' → (∀ t, t = 2 ∨ t = 3 ∨ t = 4 ∨ t = 5 ∨ t = 26 ∨ t = 27 ∨ t = 28 → tget T' t = tget T t) → Q .normal ⟨T', D, A'⟩)
    (hbad : ∀ T' A', parseW head i st wd = none → RdBad X2 X3 X4 G0 C A' → Q .ret ⟨T', D, A'⟩) :
    W AP KL g rd pw308 ⟨T, D, A⟩ Q := by
  obtain ⟨g1, g2, g3, g4, g5⟩ := hC.g
  obtain ⟨l2, l3, l4, l5⟩ := hC.lt
  obtain ⟨n23, n24, n25, n34, n35, n45⟩ := hC.ne
  have hn := hA.n
  have hcn := hC.cn
  have hg0 : ∀ X, X < M → G0 ≠ some X := fun X hX h => by have := hC.g0 X h; omega
  obtain ⟨sv, x4, hacc, hblk⟩ := hA.x4
  obtain ⟨psv, nsv, csv, rfl⟩ := hacc.isSlice
  have x2 : A.get X2 = some zeroG := by rw [hA.fr X2 (by omega) n24 (hg0 _ l2)]; exact hC.x2
  have x3 : A.get X3 = some (.cells [.int .i64 0] false) := by rw [hA.fr X3 (by omega) n34 (hg0 _ l3)]; exact hC.x3
  have x5 : A.get X5 = some (.cells [.bool head] false) := by rw [hA.fr X5 (by omega) (Ne.symm n45) (hg0 _ l5)]; exact hC.x5
  have hev := hA.ev
  have h13 : eqNilA 4 true .nilIface = some (.bool false) := rfl
  have h14 : eqNilA 4 true errV = some (.bool true) := rfl
  have keep : ∀ {T' : List Value}, (tget T' 2 = tget T 2 ∧ tget T' 3 = tget T 3 ∧ tget T' 4 = tget T 4 ∧ tget T' 5 = tget T 5 ∧ tget T' 26 = tget T 26 ∧ tget T' 27 = tget T 27 ∧ tget T' 28 = tget T 28) → ∀ t, t = 2 ∨ t = 3 ∨ t = 4 ∨ t = 5 ∨ t = 26 ∨ t = 27 ∨ t = 28 → tget T' t = tget T t := by
    intro T' h t ht
    rcases ht with rfl | rfl | rfl | rfl | rfl | rfl | rfl <;> simp [h]
  have A2e : (A.set X2 (some zeroG)).get X3 = some (.cells [.int .i64 0] false) := by rw [get_set_ne (by omega) (Ne.symm n23)]; exact x3
  have bad : RdBad X2 X3 X4 G0 C ((A.set X2 (some zeroG)).set X3 (some (.cells [.int .i64 7] false))) := by
    refine ⟨by simp; omega, ?_, get_set_same A2e, fun z hz h4 h3 h0 => ?_⟩
    · rw [get_set_ne (by simp; omega) n23, get_set_same x2]
    · rw [get_set_ne (by simp; omega) h3]
      by_cases hz2 : z = X2
      · subst hz2; rw [get_set_same x2, hC.x2]
      · rw [get_set_ne (by omega) hz2, hA.fr z hz h4 h0]
  have put : ∀ (w h s : Int), RdA M X4 G0 C ⟨w, h, s, st.zs⟩ (A.set X4 (some (.cells [.int .i64 w, .int .i64 h, .int .i64 s, .slice psv nsv csv] false))) := fun w h s =>
    ⟨fun z hz h4 h0 => by rw [get_set_ne (by omega) h4, hA.fr z hz h4 h0], by simpa using hn, ⟨_, get_set_same x4, hacc.keepB fun z hz => get_set_ne (by omega) (by have := (hacc.blk_ge hz).1; omega), hblk⟩, hev⟩
  unfold zeroG at x2 A2e bad
  cases head with
  | false =>
    rcases ha with ⟨ha, rfl⟩ | ⟨ha, rfl⟩
    · rcases hb with ⟨hb, rfl⟩ | ⟨hb, rfl⟩
      · obtain ⟨sv', A1, a1, a2, a3, a4, a5⟩ := add_keep (g := g) (bytes := 16) (A := A) (new := [.int .i64 a, .int .i64 b]) (ro := false) (n := st.zs.length / 2) hacc g1 (by omega) rfl (by decide) rfl (by rw [ints_length]; omega) (by unfold room; omega)
        rw [show ints st.zs ++ [.int .i64 a, .int .i64 b] = ints (st.zs ++ [a, b]) by rw [ints_append]; rfl] at a2
        obtain ⟨ps, ns, cs, rfl⟩ := a2.isSlice
        have y4 : A1.get X4 = some (.cells [.int .i64 st.w, .int .i64 st.h, .int .i64 st.s, .slice psv nsv csv] false) := by rw [a3 X4 (by omega) (fun h => by have := (hacc.blk_ge h).1; omega)]; exact x4
        simp (disch := as_aux_lemma => first | omega | simp only [hDs] <;> omega | simp [isCell]) [hRs, takeMarks, resA, resAll, resOne, Value.cells, pw308, t2, t3, t4, t5, t7, t8, t12, t13, t14, t15, x5, h13, h14, strEql, storeB_cells, setRange, setRange_all, fillA, x4, slitA, show zeros 1 [Value.int .i64 0, .int .i64 0] = [.int .i64 0, .int .i64 0] from rfl, a1, y4]
        refine hok _ _ ⟨st.w, st.h, st.s, st.zs ++ [a, b]⟩ (by unfold parseW; rw [if_neg (fun h => by cases h.1), ha, hb]; simp) ⟨fun z hz h4 h0 => ?_, by simp; omega, ⟨_, get_set_same y4, a2.keepB fun z hz => get_set_ne (Hp.lt_of_get y4) (by have := (a2.blk_ge hz).1; omega), fun z hz => .inr (by have := Option.some.inj (a5.symm.trans hz); omega)⟩, by simp; omega⟩ (keep (by simp))
        rw [get_set_ne (Hp.lt_of_get y4) h4, a3 z (by omega) (fun h => (hblk z h).elim h0 (fun h1 => by omega)), hA.fr z hz h4 h0]
      · simp (disch := as_aux_lemma => first | omega | simp only [hDs] <;> omega | simp [isCell]) [hRs, takeMarks, resA, resAll, resOne, Value.cells, pw308, t2, t3, t4, t5, t7, t8, t12, t13, t14, t15, x5, h13, h14, strEql, storeB_cells, setRange, setRange_all, fillA, show (1 : Int) = 1 from rfl, x2, A2e]
        exact hbad _ _ (by unfold parseW; rw [if_neg (fun h => by cases h.1), ha, hb]) bad
    · simp (disch := as_aux_lemma => first | omega | simp only [hDs] <;> omega | simp [isCell]) [hRs, takeMarks, resA, resAll, resOne, Value.cells, pw308, t2, t3, t4, t5, t7, t8, t12, t13, t14, t15, x5, h13, h14, strEql, storeB_cells, setRange, setRange_all, fillA, show (1 : Int) = 1 from rfl, x2, A2e]
      exact hbad _ _ (by unfold parseW; rw [if_neg (fun h => by cases h.1), ha]) bad
  | true =>
    by_cases i0 : i = 0
    · subst i0
      by_cases hwg : wd = [103, 114, 105, 100]
      · simp (disch := as_aux_lemma => first | omega | simp only [hDs] <;> omega | simp [isCell]) [hRs, takeMarks, resA, resAll, resOne, Value.cells, pw308, t2, t3, t4, t5, t7, t8, t12, t13, t14, t15, x5, h13, h14, strEql, storeB_cells, setRange, setRange_all, fillA, decide_eq_true hwg]
        exact hok _ _ st (by unfold parseW; rw [if_pos ⟨rfl, rfl, hwg⟩]) hA (keep (by simp))
      · rcases ha with ⟨ha, rfl⟩ | ⟨ha, rfl⟩
        · rcases hb with ⟨hb, rfl⟩ | ⟨hb, rfl⟩
          · simp (disch := as_aux_lemma => first | omega | simp only [hDs] <;> omega | simp [isCell]) [hRs, takeMarks, resA, resAll, resOne, Value.cells, pw308, t2, t3, t4, t5, t7, t8, t12, t13, t14, t15, x5, h13, h14, strEql, storeB_cells, setRange, setRange_all, fillA, decide_eq_false hwg, x2, A2e]
            exact hbad _ _ (by unfold parseW; rw [if_neg (fun h => hwg h.2.2), ha, hb]; simp) bad
          · simp (disch := as_aux_lemma => first | omega | simp only [hDs] <;> omega | simp [isCell]) [hRs, takeMarks, resA, resAll, resOne, Value.cells, pw308, t2, t3, t4, t5, t7, t8, t12, t13, t14, t15, x5, h13, h14, strEql, storeB_cells, setRange, setRange_all, fillA, decide_eq_false hwg, x2, A2e]
            exact hbad _ _ (by unfold parseW; rw [if_neg (fun h => hwg h.2.2), ha, hb]) bad
        · simp (disch := as_aux_lemma => first | omega | simp only [hDs] <;> omega | simp [isCell]) [hRs, takeMarks, resA, resAll, resOne, Value.cells, pw308, t2, t3, t4, t5, t7, t8, t12, t13, t14, t15, x5, h13, h14, strEql, storeB_cells, setRange, setRange_all, fillA, decide_eq_false hwg, x2, A2e]
          exact hbad _ _ (by unfold parseW; rw [if_neg (fun h => hwg h.2.2), ha]) bad
    · have j0 : ¬ (i : Int) = 0 := by omega
      by_cases i1 : i = 1
      · subst i1
        rcases ha with ⟨ha, rfl⟩ | ⟨ha, rfl⟩
        · rcases hb with ⟨hb, rfl⟩ | ⟨hb, rfl⟩
          · simp (disch := as_aux_lemma => first | omega | simp only [hDs] <;> omega | simp [isCell]) [hRs, takeMarks, resA, resAll, resOne, Value.cells, pw308, t2, t3, t4, t5, t7, t8, t12, t13, t14, t15, x5, h13, h14, strEql, storeB_cells, setRange, setRange_all, fillA, x4]
            exact hok _ _ ⟨a, st.h, st.s, st.zs⟩ (by unfold parseW; rw [if_neg (fun h => by have := h.2.1; omega), ha, hb]; simp) (put a st.h st.s) (keep (by simp))
          · simp (disch := as_aux_lemma => first | omega | simp only [hDs] <;> omega | simp [isCell]) [hRs, takeMarks, resA, resAll, resOne, Value.cells, pw308, t2, t3, t4, t5, t7, t8, t12, t13, t14, t15, x5, h13, h14, strEql, storeB_cells, setRange, setRange_all, fillA, show (1 : Int) = 1 from rfl, x2, A2e]
            exact hbad _ _ (by unfold parseW; rw [if_neg (fun h => by have := h.2.1; omega), ha, hb]) bad
        · simp (disch := as_aux_lemma => first | omega | simp only [hDs] <;> omega | simp [isCell]) [hRs, takeMarks, resA, resAll, resOne, Value.cells, pw308, t2, t3, t4, t5, t7, t8, t12, t13, t14, t15, x5, h13, h14, strEql, storeB_cells, setRange, setRange_all, fillA, show (1 : Int) = 1 from rfl, x2, A2e]
          exact hbad _ _ (by unfold parseW; rw [if_neg (fun h => by have := h.2.1; omega), ha]) bad
      · have j1 : ¬ (i : Int) = 1 := by omega
        by_cases i2 : i = 2
        · subst i2
          rcases ha with ⟨ha, rfl⟩ | ⟨ha, rfl⟩
          · rcases hb with ⟨hb, rfl⟩ | ⟨hb, rfl⟩
            · simp (disch := as_aux_lemma => first | omega | simp only [hDs] <;> omega | simp [isCell]) [hRs, takeMarks, resA, resAll, resOne, Value.cells, pw308, t2, t3, t4, t5, t7, t8, t12, t13, t14, t15, x5, h13, h14, strEql, storeB_cells, setRange, setRange_all, fillA, x4]
              exact hok _ _ ⟨st.w, a, st.s, st.zs⟩ (by unfold parseW; rw [if_neg (fun h => by have := h.2.1; omega), ha, hb]; simp) (put st.w a st.s) (keep (by simp))
            · simp (disch := as_aux_lemma => first | omega | simp only [hDs] <;> omega | simp [isCell]) [hRs, takeMarks, resA, resAll, resOne, Value.cells, pw308, t2, t3, t4, t5, t7, t8, t12, t13, t14, t15, x5, h13, h14, strEql, storeB_cells, setRange, setRange_all, fillA, show (1 : Int) = 1 from rfl, x2, A2e]
              exact hbad _ _ (by unfold parseW; rw [if_neg (fun h => by have := h.2.1; omega), ha, hb]) bad
          · simp (disch := as_aux_lemma => first | omega | simp only [hDs] <;> omega | simp [isCell]) [hRs, takeMarks, resA, resAll, resOne, Value.cells, pw308, t2, t3, t4, t5, t7, t8, t12, t13, t14, t15, x5, h13, h14, strEql, storeB_cells, setRange, setRange_all, fillA, show (1 : Int) = 1 from rfl, x2, A2e]
            exact hbad _ _ (by unfold parseW; rw [if_neg (fun h => by have := h.2.1; omega), ha]) bad
        · have j2 : ¬ (i : Int) = 2 := by omega
          by_cases i3 : i = 3
          · subst i3
            rcases ha with ⟨ha, rfl⟩ | ⟨ha, rfl⟩
            · rcases hb with ⟨hb, rfl⟩ | ⟨hb, rfl⟩
              · simp (disch := as_aux_lemma => first | omega | simp only [hDs] <;> omega | simp [isCell]) [hRs, takeMarks, resA, resAll, resOne, Value.cells, pw308, t2, t3, t4, t5, t7, t8, t12, t13, t14, t15, x5, h13, h14, strEql, storeB_cells, setRange, setRange_all, fillA, x4]
                exact hok _ _ ⟨st.w, st.h, a, st.zs⟩ (by unfold parseW; rw [if_neg (fun h => by have := h.2.1; omega), ha, hb]; simp) (put st.w st.h a) (keep (by simp))
              · simp (disch := as_aux_lemma => first | omega | simp only [hDs] <;> omega | simp [isCell]) [hRs, takeMarks, resA, resAll, resOne, Value.cells, pw308, t2, t3, t4, t5, t7, t8, t12, t13, t14, t15, x5, h13, h14, strEql, storeB_cells, setRange, setRange_all, fillA, show (1 : Int) = 1 from rfl, x2, A2e]
                exact hbad _ _ (by unfold parseW; rw [if_neg (fun h => by have := h.2.1; omega), ha, hb]) bad
            · simp (disch := as_aux_lemma => first | omega | simp only [hDs] <;> omega | simp [isCell]) [hRs, takeMarks, resA, resAll, resOne, Value.cells, pw308, t2, t3, t4, t5, t7, t8, t12, t13, t14, t15, x5, h13, h14, strEql, storeB_cells, setRange, setRange_all, fillA, show (1 : Int) = 1 from rfl, x2, A2e]
              exact hbad _ _ (by unfold parseW; rw [if_neg (fun h => by have := h.2.1; omega), ha]) bad
          · have j3 : ¬ (i : Int) = 3 := by omega
            rcases ha with ⟨ha, rfl⟩ | ⟨ha, rfl⟩
            · rcases hb with ⟨hb, rfl⟩ | ⟨hb, rfl⟩
              · simp (disch := as_aux_lemma => first | omega | simp only [hDs] <;> omega | simp [isCell]) [hRs, takeMarks, resA, resAll, resOne, Value.cells, pw308, t2, t3, t4, t5, t7, t8, t12, t13, t14, t15, x5, h13, h14, strEql, storeB_cells, setRange, setRange_all, fillA, i0, i1, i2, i3, j0, j1, j2, j3, x2, A2e]
                exact hbad _ _ (by unfold parseW; rw [if_neg (fun h => i0 h.2.1), ha, hb]; simp [i1, i2, i3]) bad
              · simp (disch := as_aux_lemma => first | omega | simp only [hDs] <;> omega | simp [isCell]) [hRs, takeMarks, resA, resAll, resOne, Value.cells, pw308, t2, t3, t4, t5, t7, t8, t12, t13, t14, t15, x5, h13, h14, strEql, storeB_cells, setRange, setRange_all, fillA, i0, i1, i2, i3, j0, j1, j2, j3, x2, A2e]
                exact hbad _ _ (by unfold parseW; rw [if_neg (fun h => i0 h.2.1), ha, hb]) bad
            · simp (disch := as_aux_lemma => first | omega | simp only [hDs] <;> omega | simp [isCell]) [hRs, takeMarks, resA, resAll, resOne, Value.cells, pw308, t2, t3, t4, t5, t7, t8, t12, t13, t14, t15, x5, h13, h14, strEql, storeB_cells, setRange, setRange_all, fillA, i0, i1, i2, i3, j0, j1, j2, j3, x2, A2e]
              exact hbad _ _ (by unfold parseW; rw [if_neg (fun h => i0 h.2.1), ha]) bad
end
end Go.Ab.Grid
set_option maxRecDepth 100000
namespace Go.Ab.Grid
open Go Go.Ab
def parseL (head : Bool) : Nat → PSt → List (List UInt8) → Option PSt
  | _, st, [] => some st
  | i, st, w :: l => match parseW head i st w with
    | some st' => parseL head (i + 1) st' l
    | none => none
theorem parseW_len {head : Bool} {i : Nat} {st st' : PSt} {w : List UInt8} (h : parseW head i st w = some st') : st'.zs.length ≤ st.zs.length + 2 := by
  unfold parseW at h
  split at h
  · cases h; omega
  · split at h
    · split at h
      · split at h
        · cases h; simp
        · split at h
          · cases h; simp
          · split at h
            · cases h; simp
            · cases h
      · cases h; simp
    · cases h
theorem parseL_len {head : Bool} : ∀ {l : List (List UInt8)} {i : Nat} {st st' : PSt}, parseL head i st l = some st' → st'.zs.length ≤ st.zs.length + 2 * l.length
  | [], i, st, st', h => by cases h; simp
  | w :: l, i, st, st', h => by
    rw [parseL] at h
    split at h
    · rename_i st1 h1
      have a := parseW_len h1
      have b := parseL_len h
      rw [List.length_cons]; omega
    · cases h
theorem fieldsGoD_len : ∀ (f : Nat) (cur l : List UInt8), (Lib.fieldsGoD f cur l).length ≤ f + 1
  | 0, cur, l => by unfold Lib.fieldsGoD; split <;> simp
  | f + 1, cur, l => by
    unfold Lib.fieldsGoD
    split
    · split <;> simp
    · split
      · have := fieldsGoD_len f [] (l.drop (Lib.decodeL l).2)
        rw [List.length_append]
        split <;> simp <;> omega
      · have := fieldsGoD_len f (cur ++ l.take (Lib.decodeL l).2) (l.drop (Lib.decodeL l).2)
        omega
theorem fieldsD_len (l : List UInt8) : (Lib.fieldsD l).length ≤ l.length + 2 := by
  have := fieldsGoD_len (l.length + 1) [] l
  unfold Lib.fieldsD
  omega
theorem fieldsGoD_mem : ∀ (f : Nat) (cur l : List UInt8) {w : List UInt8}, w ∈ Lib.fieldsGoD f cur l → w.length ≤ cur.length + l.length
  | 0, cur, l, w, h => by
    unfold Lib.fieldsGoD at h
    split at h
    · cases h
    · rw [List.mem_singleton] at h; subst h; omega
  | f + 1, cur, l, w, h => by
    unfold Lib.fieldsGoD at h
    split at h
    · split at h
      · cases h
      · rw [List.mem_singleton] at h; subst h; omega
    · split at h
      · rcases List.mem_append.1 h with h1 | h1
        · split at h1
          · cases h1
          · rw [List.mem_singleton] at h1; subst h1; omega
        · have := fieldsGoD_mem f [] _ h1
          rw [List.length_drop] at this
          simp at this
          omega
      · have := fieldsGoD_mem f _ _ h
        rw [List.length_append, List.length_take, List.length_drop] at this
        omega
theorem fieldsD_mem {l w : List UInt8} (h : w ∈ Lib.fieldsD l) : w.length ≤ l.length := by
  have := fieldsGoD_mem _ _ _ h
  simpa using this
section
variable {g : Nat} {rd : Option Nat} {T : List Value} {D : List Nat} {A : Hp} {Q : Ex → St → Prop} {V : Value → Hp → Prop}
theorem s344 {wd p : List UInt8} (h : wd.length ≤ 1000000) : S344 g [strV wd, strV p] A = some (.tuple ⟨[strV (Lib.cut wd p).1, strV (Lib.cut wd p).2.1, .bool (Lib.cut wd p).2.2]⟩, A) := by
  unfold S344
  simp only
  have hs : (⟨⟨wd⟩⟩ : ByteArray).size < 4294967281 := by show wd.length < _; omega
  rw [if_pos hs]
theorem s345 {l : List UInt8} (h : l.length ≤ 1000000) : S345 g [strV l] A = some (atoiV l, A) := by
  unfold S345
  simp only
  have hs : (⟨⟨l⟩⟩ : ByteArray).size ≤ room := by show l.length ≤ _; unfold room; omega
  rw [if_pos hs]
theorem s343 {l : List UInt8} (h : l.length ≤ 1000000) : S343 g [strV l] A = some (.slice (some ⟨A.n, 0, some 1⟩) (Lib.fieldsD l).length (Lib.fieldsD l).length, A.push (.cells ((Lib.fieldsD l).map strV) false)) := by
  unfold S343
  simp only
  have hs : (⟨⟨l⟩⟩ : ByteArray).size < 4294967281 := by show l.length < _; omega
  rw [if_pos hs]
theorem loop308 {M X2 X3 X4 X5 F : Nat} {G0 : Option Nat} {C : Hp} {head : Bool} {ws : List (List UInt8)} {R : Option PSt} (hC : RdC g M X2 X3 X4 X5 G0 C head) (hF : C.get F = some (.cells (ws.map strV) false)) (hF4 : F ≠ X4 ∧ G0 ≠ some F) (hwl : ∀ w, w ∈ ws → w.length ≤ 1000000) (hwn : ws.length ≤ 200000)
    (hQ : ∀ T' A' st', R = some st' → RdA M X4 G0 C st' A' → (∀ t, t = 2 ∨ t = 3 ∨ t = 4 ∨ t = 5 → tget T' t = tget T t) → Q (.exit 2) ⟨T', D, A'⟩) (hR : ∀ T' A', R = none → RdBad X2 X3 X4 G0 C A' → Q .ret ⟨T', D, A'⟩)
    (t2 : tget T 2 = .pointer (some ⟨X2, 0, none⟩)) (t3 : tget T 3 = .pointer (some ⟨X3, 0, none⟩)) (t4 : tget T 4 = .pointer (some ⟨X4, 0, none⟩)) (t5 : tget T 5 = .pointer (some ⟨X5, 0, none⟩)) :
    ∀ (k i : Nat) {T1 : List Value} {A : Hp} (st : PSt), i + k = ws.length → RdA M X4 G0 C st A → parseL head i st (ws.drop i) = R → st.zs.length + 2 * k ≤ 1000000 → (∀ t, t = 2 ∨ t = 3 ∨ t = 4 ∨ t = 5 → tget T1 t = tget T t) → tget T1 26 = .slice (some ⟨F, 0, some 1⟩) ws.length ws.length → tget T1 27 = .int .i64 ws.length → tget T1 28 = .int .i64 i →
      W AP KL g rd (.loop body308) ⟨T1, D, A⟩ Q := by
  intro k
  induction k with
  | zero =>
    intro i T1 A st hi hA hp hz hk t26 t27 t28
    have : i = ws.length := by omega
    subst this
    rw [List.drop_length] at hp
    rw [W_loop, body308_eq]
    simp (disch := as_aux_lemma => first | omega | simp only [hDs] <;> omega | simp [isCell]) [hRs, takeMarks, resA, resAll, resOne, Value.cells, pa308, pc308, t27, t28]
    refine hQ _ _ st hp.symm hA fun t ht => ?_
    rw [← hk t ht]
    rcases ht with rfl | rfl | rfl | rfl <;> simp
  | succ k ih =>
    intro i T1 A st hi hA hp hz hk t26 t27 t28
    have hin : i < ws.length := by omega
    have e5 : wr .i64 ((i : Int) + 1) = ((i + 1 : Nat) : Int) := by rw [wrId (by omega) (by omega)]; simp
    have aF : A.get F = some (.cells (ws.map strV) false) := by rw [hA.fr F (Hp.lt_of_get hF) hF4.1 hF4.2]; exact hF
    obtain ⟨wd, hwd⟩ : ∃ wd, wd = ws[i] := ⟨_, rfl⟩
    have hwm : wd ∈ ws := by rw [hwd]; exact List.getElem_mem _
    have hwdl := hwl wd hwm
    have hcell : cellAt (ws.map strV) i = some (strV wd) := by
      unfold cellAt
      rw [List.getElem?_map, List.getElem?_eq_getElem hin, hwd]
      rfl
    have hdrop : ws.drop i = wd :: ws.drop (i + 1) := by rw [List.drop_eq_getElem_cons hin, hwd]
    rw [hdrop, parseL] at hp
    have k2 := (hk 2 (by simp)).trans t2
    have k3 := (hk 3 (by simp)).trans t3
    have k4 := (hk 4 (by simp)).trans t4
    have k5 := (hk 5 (by simp)).trans t5
    obtain ⟨cl1, cl2⟩ := cut_len wd [46, 46]
    have c344 := s344 (g := g) (A := A) (wd := wd) (p := [46, 46]) hwdl
    obtain ⟨lo, hlo⟩ : ∃ lo, lo = (Lib.cut wd [46, 46]).1 := ⟨_, rfl⟩
    obtain ⟨af, haf⟩ : ∃ af, af = (Lib.cut wd [46, 46]).2.1 := ⟨_, rfl⟩
    obtain ⟨two, htwo⟩ : ∃ two, two = (Lib.cut wd [46, 46]).2.2 := ⟨_, rfl⟩
    rw [← hlo, ← haf, ← htwo] at c344
    rw [← hlo] at cl1
    rw [← haf] at cl2
    obtain ⟨a, e1, hv1, ha⟩ := atoiV_cases lo
    have c345 := s345 (g := g) (A := A) (l := lo) (by omega)
    rw [hv1] at c345
    have fin : ∀ (hi' : List UInt8) (b : Int) (e2 : Value) (T2 : List Value), hi' = (if (Lib.cut wd [46, 46]).2.2 = true then (Lib.cut wd [46, 46]).2.1 else (Lib.cut wd [46, 46]).1) → (numV hi' = some b ∧ e2 = .nilIface ∨ numV hi' = none ∧ e2 = errV) →
        tget T2 2 = .pointer (some ⟨X2, 0, none⟩) → tget T2 3 = .pointer (some ⟨X3, 0, none⟩) → tget T2 4 = .pointer (some ⟨X4, 0, none⟩) → tget T2 5 = .pointer (some ⟨X5, 0, none⟩) → tget T2 7 = .int .i64 i → tget T2 8 = strV wd → tget T2 12 = .int .i64 a → tget T2 13 = e1 → tget T2 14 = .int .i64 b → tget T2 15 = e2 →
        tget T2 26 = .slice (some ⟨F, 0, some 1⟩) ws.length ws.length → tget T2 27 = .int .i64 ws.length → tget T2 28 = .int .i64 i →
        W AP KL g rd pw308 ⟨T2, D, A⟩ (BlkQ 4 (BlkQ 3 (SeqQ AP KL g rd pi308 (SeqQ AP KL g rd (.loop body308) Q)))) := by
      intro hi' b e2 T2 hhi hb q2 q3 q4 q5 q7 q8 q12 q13 q14 q15 q26 q27 q28
      refine word308 (wd := wd) (a := a) (b := b) (e1 := e1) (e2 := e2) hC hA (by omega) (by omega) (by rw [← hlo]; exact ha) (by rw [← hhi]; exact hb) q2 q3 q4 q5 q7 q8 q12 q13 q14 q15 (fun T' A' st' w1 w2 w3 => ?_) (fun T' A' w1 w2 => ?_)
      · have j28 := (w3 28 (by simp)).trans q28
        simp (disch := as_aux_lemma => first | omega | simp only [hDs] <;> omega | simp [isCell]) [hRs, takeMarks, resA, resAll, resOne, Value.cells, BlkQ, SeqQ, pi308, j28, e5]
        rw [w1] at hp
        refine ih (i + 1) st' (by omega) w2 hp (by have := parseW_len w1; omega) (fun t ht => ?_) ?_ ?_ ?_
        · rcases ht with rfl | rfl | rfl | rfl
          · simp [(w3 2 (by simp)).trans q2, t2]
          · simp [(w3 3 (by simp)).trans q3, t3]
          · simp [(w3 4 (by simp)).trans q4, t4]
          · simp [(w3 5 (by simp)).trans q5, t5]
        · simp [(w3 26 (by simp)).trans q26]
        · simp [(w3 27 (by simp)).trans q27]
        · simp
      · rw [w1] at hp
        simp (disch := as_aux_lemma => first | omega | simp only [hDs] <;> omega | simp [isCell]) [hRs, takeMarks, resA, resAll, resOne, Value.cells, BlkQ, SeqQ]
        exact hR _ _ hp.symm w2
    rw [W_loop, body308_eq]
    cases hb2 : two
    · rw [hb2] at htwo
      have hh : lo = (if (Lib.cut wd [46, 46]).2.2 = true then (Lib.cut wd [46, 46]).2.1 else (Lib.cut wd [46, 46]).1) := by rw [← htwo, hlo]; simp
      simp (disch := as_aux_lemma => first | omega | simp only [hDs] <;> omega | simp [isCell]) [hRs, takeMarks, resA, resAll, resOne, Value.cells, pa308, pc308, pd308, pe308, pf308, pg308, ph308, t26, t27, t28, show ((i : Int) < (ws.length : Int)) by omega, hin, idxSA_ok, aF, hcell, WF_spec (show KL 344 = some S344 from rfl), WF_spec (show KL 345 = some S345 from rfl), c344, hb2, c345]
      refine fin lo a e1 _ hh ha ?_ ?_ ?_ ?_ ?_ ?_ ?_ ?_ ?_ ?_ ?_ ?_ ?_
      all_goals simp [k2, k3, k4, k5, t26, t27, t28]
    · rw [hb2] at htwo
      have hh : af = (if (Lib.cut wd [46, 46]).2.2 = true then (Lib.cut wd [46, 46]).2.1 else (Lib.cut wd [46, 46]).1) := by rw [← htwo, haf]; simp
      obtain ⟨b, e2, hv2, hb'⟩ := atoiV_cases af
      have d345 := s345 (g := g) (A := A) (l := af) (by omega)
      rw [hv2] at d345
      simp (disch := as_aux_lemma => first | omega | simp only [hDs] <;> omega | simp [isCell]) [hRs, takeMarks, resA, resAll, resOne, Value.cells, pa308, pc308, pd308, pe308, pf308, pg308, ph308, t26, t27, t28, show ((i : Int) < (ws.length : Int)) by omega, hin, idxSA_ok, aF, hcell, WF_spec (show KL 344 = some S344 from rfl), WF_spec (show KL 345 = some S345 from rfl), c344, hb2, c345, d345]
      refine fin af b e2 _ hh hb' ?_ ?_ ?_ ?_ ?_ ?_ ?_ ?_ ?_ ?_ ?_ ?_ ?_
      all_goals simp [k2, k3, k4, k5, t26, t27, t28]
end
end Go.Ab.Grid
set_option maxRecDepth 100000
namespace Go.Ab.Grid
open Go Go.Ab
def asg308 : ACode := (.ops [
oM 6 24])
def body308r : ACode := (.block 1
 (.seq
 (.seq
 (.ops [
oM 25 6,
oA 26 343 [.t 25] false,
oP 27 (.len (.t 26)),
oP 28 (.move (oK 0))])
 (.block 2
 (.loop
 (.seq
 (.ops [
oB 29 .lss 28 27])
 (.seq
 (.cond (.t 29)
 .skip
 (.exit 2))
 (.seq
 (.block 3
 (.seq
 (.ops [
oM 30 28,
oI 31 26 28 1,
oL 32 31,
oM 7 30,
oM 8 32])
 (.seq
 (.ops [
oM 34 8,
⟨some 35, none, [], .call (.k (.func (.func 344) ⟨[]⟩ ⟨[]⟩)) [.t 34, .k (.string ⟨⟨[46, 46]⟩⟩)] false⟩,
oM 33 35,
oX 36 33 0,
oX 37 33 1,
oX 38 33 2,
oM 9 36,
oM 10 37,
oM 11 38])
 (.seq
 (.seq
 (.ops [
oM 39 11,
oP 40 (.not (.t 39))])
 (.cond (.t 40)
 (.ops [
oM 41 9,
oM 10 41])
 .skip))
 (.seq
 (.ops [
oM 43 9,
oA 44 345 [.t 43] false,
oM 42 44,
oX 45 42 0,
oX 46 42 1,
oM 12 45,
oM 13 46])
 (.seq
 (.ops [
oM 48 10,
oA 49 345 [.t 48] false,
oM 47 49,
oX 50 47 0,
oX 51 47 1,
oM 14 50,
oM 15 51])
 (.block 4
 (.seq
 (.ops [
oL 54 5,
oM 55 54,
oN 56 55 true 7,
oQ 57 55 true (.bin .eql (.t 56) (oK 0)),
oP 58 (.pick (.t 55) (.t 57) (.k (.bool false))),
oM 59 58,
oN 60 59 true 8,
⟨some 61, (some (59, true)), [], .strOp .eql (.t 60) (.k (.string ⟨⟨[103, 114, 105, 100]⟩⟩))⟩,
oP 62 (.pick (.t 59) (.t 61) (.k (.bool false))),
oM 53 62])
 (.cond (.t 53)
 .skip
 (.seq
 (.ops [
oM 64 13,
oP 65 (.eqNil 4 true (.t 64)),
oM 66 65,
oN 67 66 false 15,
oQ 68 66 false (.eqNil 4 true (.t 67)),
oP 69 (.pick (.t 66) (.k (.bool true)) (.t 68)),
oM 63 69])
 (.cond (.t 63)
 (.seq
 (.ops [
oP 70 (.build [.int .i64 0, .int .i64 0, .int .i64 0, .slice none 0 0] []),
oT 2 70 4,
⟨none, none, [], .store (.t 3) (.k (.int .i64 7)) 1⟩])
 .ret)
 (.seq
 (.ops [
oL 72 5,
oM 73 72,
oN 74 73 true 7,
oQ 75 73 true (.bin .eql (.t 74) (oK 1)),
oP 76 (.pick (.t 73) (.t 75) (.k (.bool false))),
oM 71 76])
 (.cond (.t 71)
 (.ops [
oM 77 12,
oF 78 4 0,
oT 78 77 1])
 (.seq
 (.ops [
oL 80 5,
oM 81 80,
oN 82 81 true 7,
oQ 83 81 true (.bin .eql (.t 82) (oK 2)),
oP 84 (.pick (.t 81) (.t 83) (.k (.bool false))),
oM 79 84])
 (.cond (.t 79)
 (.ops [
oM 85 12,
oF 86 4 1,
oT 86 85 1])
 (.seq
 (.ops [
oL 88 5,
oM 89 88,
oN 90 89 true 7,
oQ 91 89 true (.bin .eql (.t 90) (oK 3)),
oP 92 (.pick (.t 89) (.t 91) (.k (.bool false))),
oM 87 92])
 (.cond (.t 87)
 (.ops [
oM 93 12,
oF 94 4 2,
oT 94 93 1])
 (.seq
 (.ops [
oL 96 5,
oP 97 (.not (.t 96)),
oM 95 97])
 (.cond (.t 95)
 (.ops [
oF 98 4 3,
oL 99 98,
oM 100 12,
oM 101 14,
oP 102 (.build [.int .i64 0, .int .i64 0] [(0, 1, .t 100), (1, 1, .t 101)]),
oP 103 (.slit 1 2 [.int .i64 0, .int .i64 0] [(0, .t 102)]),
oP 104 (.append (.t 99) (.t 103) 2 16),
oF 105 4 3,
oT 105 104 1])
 (.seq
 (.ops [
oP 52 (.build [.int .i64 0, .int .i64 0, .int .i64 0, .slice none 0 0] []),
oT 2 52 4,
⟨none, none, [], .store (.t 3) (.k (.int .i64 7)) 1⟩])
 .ret))))))))))))))))))))
 (.ops [
oC 106 .add 28 1,
oM 28 106])))))))
 (.ops [
⟨none, none, [], .store (.t 5) (.k (.bool false)) 1⟩])))
def linesF : Nat → List UInt8 → List (List UInt8)
  | 0, _ => []
  | f + 1, l => if l = [] then [] else if 0 ≤ idxB l 10 then l.take ((idxB l 10).toNat + 1) :: linesF f (l.drop ((idxB l 10).toNat + 1)) else [l]
def parseA : Bool → PSt → List (List UInt8) → Option PSt
  | _, st, [] => some st
  | head, st, l :: ls => match parseL head 0 st (Lib.fieldsD l) with
    | some st' => parseA false st' ls
    | none => none
theorem idxA_rng (c : UInt8) : ∀ (l : List UInt8) (k : Nat), idxA l c k = -1 ∨ (k : Int) ≤ idxA l c k ∧ idxA l c k < k + l.length
  | [], k => .inl rfl
  | b :: l, k => by
    unfold idxA
    split
    · refine .inr ⟨Int.le_refl _, ?_⟩
      simp
      omega
    · rcases idxA_rng c l (k + 1) with h | h
      · exact .inl h
      · refine .inr ?_
        simp at h ⊢
        omega
theorem strSl_to {l : List UInt8} {j : Nat} (h : j ≤ l.length) : strSlA (strV l) (some 0) (fun _ => some (j : Int)) = some (strV (l.take j)) := by
  unfold strSlA
  simp only
  have hs : (0 : Int) ≤ 0 ∧ (0 : Int) ≤ (j : Int) ∧ (j : Int) ≤ ((⟨⟨l⟩⟩ : ByteArray).size : Int) := ⟨by omega, by omega, by show (j : Int) ≤ ((l.length : Nat) : Int); omega⟩
  rw [if_pos hs]
  simp
theorem strSl_from {l : List UInt8} {j : Nat} (h : j ≤ l.length) : strSlA (strV l) (some (j : Int)) (fun n => some (n : Int)) = some (strV (l.drop j)) := by
  unfold strSlA
  simp only
  have hs : (0 : Int) ≤ (j : Int) ∧ (j : Int) ≤ ((⟨⟨l⟩⟩ : ByteArray).size : Int) ∧ ((⟨⟨l⟩⟩ : ByteArray).size : Int) ≤ ((⟨⟨l⟩⟩ : ByteArray).size : Int) := ⟨by omega, by show (j : Int) ≤ ((l.length : Nat) : Int); omega, Int.le_refl _⟩
  rw [if_pos hs]
  have : (((⟨⟨l⟩⟩ : ByteArray).size : Int) - (j : Int)).toNat = l.length - j := by
    show (((l.length : Nat) : Int) - (j : Int)).toNat = _
    omega
  rw [this]
  simp only [Int.toNat_natCast]
  rw [List.take_of_length_le (by simp)]
structure RdO (M X4 X5 XS : Nat) (C0 : Hp) (head : Bool) (st : PSt) (rest : List UInt8) (A : Hp) : Prop where
  fr : ∀ z, z < M → z ≠ X4 → z ≠ X5 → z ≠ XS → A.get z = C0.get z
  n : M ≤ A.n
  x4 : ∃ sv, A.get X4 = some (.cells [.int .i64 st.w, .int .i64 st.h, .int .i64 st.s, sv] false) ∧ AccS M A 2 (ints st.zs) sv
  x5 : A.get X5 = some (.cells [.bool head] false)
  xs : A.get XS = some (.cells [strV rest] false)
  ev : st.zs.length % 2 = 0
structure RdK (g M X2 X3 X4 X5 XS Lr : Nat) (C0 : Hp) (T1 : List Value) : Prop where
  g : g ≤ X2 ∧ g ≤ X3 ∧ g ≤ X4 ∧ g ≤ X5 ∧ g ≤ XS ∧ g ≤ Lr
  lt : X2 < M ∧ X3 < M ∧ X4 < M ∧ X5 < M ∧ XS < M ∧ Lr < M
  ne : X2 ≠ X3 ∧ X2 ≠ X4 ∧ X2 ≠ X5 ∧ X3 ≠ X4 ∧ X3 ≠ X5 ∧ X4 ≠ X5
  nes : XS ≠ X2 ∧ XS ≠ X3 ∧ XS ≠ X4 ∧ XS ≠ X5 ∧ XS ≠ Lr
  nel : Lr ≠ X2 ∧ Lr ≠ X3 ∧ Lr ≠ X4 ∧ Lr ≠ X5
  x2 : C0.get X2 = some zeroG
  x3 : C0.get X3 = some (.cells [.int .i64 0] false)
  lr : C0.get Lr = some (recL T1 [24] asg308 body308r)
  t2 : tget T1 2 = .pointer (some ⟨X2, 0, none⟩)
  t3 : tget T1 3 = .pointer (some ⟨X3, 0, none⟩)
  t4 : tget T1 4 = .pointer (some ⟨X4, 0, none⟩)
  t5 : tget T1 5 = .pointer (some ⟨X5, 0, none⟩)
structure RdE (M X2 X3 X4 X5 XS Lr : Nat) (C0 : Hp) (T1 : List Value) (A : Hp) : Prop where
  n : M ≤ A.n
  x2 : A.get X2 = some zeroG
  x3 : A.get X3 = some (.cells [.int .i64 7] false)
  lr : A.get Lr = some (.loop { state := .done, pending := some none, tmps := T1, params := [24], assign := asg308, body := body308r })
  fr : ∀ z, z < M → z ≠ X3 → z ≠ X4 → z ≠ X5 → z ≠ XS → z ≠ Lr → A.get z = C0.get z
section
variable {g : Nat} {rd : Option Nat} {T : List Value} {D : List Nat} {A : Hp} {Q : Ex → St → Prop} {V : Value → Hp → Prop}
variable {M X2 X3 X4 X5 XS Lr : Nat} {C0 : Hp} {T1 : List Value}
theorem y308 {head : Bool} {st : PSt} {rest line : List UInt8} (hK : RdK g M X2 X3 X4 X5 XS Lr C0 T1) (hO : RdO M X4 X5 XS C0 head st rest A) (hl : line.length ≤ 100000) (hz : st.zs.length + 2 * (line.length + 2) ≤ 1000000)
    (hok : ∀ A' st', parseL head 0 st (Lib.fieldsD line) = some st' → RdO M X4 X5 XS C0 false st' rest A' → V (.bool true) A')
    (hbad : ∀ A', parseL head 0 st (Lib.fieldsD line) = none → RdE M X2 X3 X4 X5 XS Lr C0 T1 A' → V (.bool false) A') : WV AP KL g (.func (.yield Lr) #[] #[]) [strV line] A V := by
  obtain ⟨g2, g3, g4, g5, gs, gl⟩ := hK.g
  obtain ⟨l2, l3, l4, l5, ls, ll⟩ := hK.lt
  obtain ⟨n23, n24, n25, n34, n35, n45⟩ := hK.ne
  obtain ⟨s2, s3, s4, s5, sL⟩ := hK.nes
  obtain ⟨L2, L3, L4, L5⟩ := hK.nel
  have hn := hO.n
  obtain ⟨sv, x4, hacc⟩ := hO.x4
  have aL : A.get Lr = some (recL T1 [24] asg308 body308r) := by rw [hO.fr Lr ll L4 L5 (Ne.symm sL)]; exact hK.lr
  refine WV_yieldP aL gl ?_
  obtain ⟨B, hB⟩ : ∃ B, B = A.set Lr (some (.loop { state := .busy, pending := none, tmps := T1, params := [24], assign := .ops [oM 6 24], body := body308r })) := ⟨_, rfl⟩
  have bz : ∀ z, z ≠ Lr → B.get z = A.get z := fun z hz => by rw [hB, get_set_ne (by omega) hz]
  have nB : B.n = A.n := by rw [hB]; simp
  have bL : B.get Lr = some (.loop { state := .busy, pending := none, tmps := T1, params := [24], assign := .ops [oM 6 24], body := body308r }) := by rw [hB, get_set_same aL]
  rw [← hB]
  obtain ⟨C, hC⟩ : ∃ C, C = B.push (.cells ((Lib.fieldsD line).map strV) false) := ⟨_, rfl⟩
  have eC : Ext' B C := by rw [hC]; exact Ext'.push _ _
  have nC : C.n = B.n + 1 := by rw [hC]; rfl
  have cF : C.get B.n = some (.cells ((Lib.fieldsD line).map strV) false) := by rw [hC]; exact get_push_new
  have hfl := fieldsD_len line
  have c343 := s343 (g := g) (A := B) (l := line) (by omega)
  rw [← hC] at c343
  have hblk : ∀ z, blkOf sv = some z → M ≤ z ∧ z < A.n := fun z hz => hacc.blk_ge hz
  have cz : ∀ z, z < M → z ≠ Lr → C.get z = A.get z := fun z hz hzl => by rw [eC.2 z (by omega), bz z hzl]
  have hRC : RdC g M X2 X3 X4 X5 (blkOf sv) C head := ⟨⟨by omega, g2, g3, g4, g5⟩, ⟨l2, l3, l4, l5⟩, by omega, fun z hz => (hblk z hz).1, ⟨n23, n24, n25, n34, n35, n45⟩,
    by rw [cz X2 l2 (Ne.symm L2), hO.fr X2 l2 n24 n25 (Ne.symm s2)]; exact hK.x2, by rw [cz X3 l3 (Ne.symm L3), hO.fr X3 l3 n34 n35 (Ne.symm s3)]; exact hK.x3, by rw [cz X5 l5 (Ne.symm L5)]; exact hO.x5⟩
  have hRA : RdA M X4 (blkOf sv) C st C := ⟨fun _ _ _ _ => rfl, Nat.le_refl _, ⟨sv, by rw [cz X4 l4 (Ne.symm L4)]; exact x4, hacc.keepB fun z hz => by rw [eC.2 z (by have := hblk z hz; omega), bz z (by have := hblk z hz; omega)], fun z hz => .inl hz⟩, hO.ev⟩
  have hg0 : ∀ X, X < M → blkOf sv ≠ some X := fun X hX h => by have := (hblk X h).1; omega
  simp (disch := as_aux_lemma => first | omega | simp only [hDs] <;> omega | simp [isCell]) [hRs, takeMarks, resA, resAll, resOne, Value.cells, body308r, WF_spec (show KL 343 = some S343 from rfl), c343]
  refine loop308 (M := M) (X2 := X2) (X3 := X3) (X4 := X4) (X5 := X5) (F := B.n) (ws := Lib.fieldsD line) (R := parseL head 0 st (Lib.fieldsD line)) hRC cF ⟨by omega, fun h => by have := (hblk _ h).2; omega⟩ (fun w hw => by have := fieldsD_mem hw; omega) (by omega) (fun T' A' st' w1 w2 w3 => ?_) (fun T' A' w1 w2 => ?_) ?_ ?_ ?_ ?_ (Lib.fieldsD line).length 0 st (Nat.zero_add _) hRA (by simp) (by omega) (fun _ _ => rfl) ?_ ?_ ?_
  · have a5 : A'.get X5 = some (.cells [.bool head] false) := by rw [w2.fr X5 (by omega) (Ne.symm n45) (hg0 _ l5)]; exact hRC.x5
    have j5 : tget T' 5 = .pointer (some ⟨X5, 0, none⟩) := (w3 5 (by simp)).trans (by simp [hK.t5])
    have aL' : A'.get Lr = some (.loop { state := .busy, pending := none, tmps := T1, params := [24], assign := .ops [oM 6 24], body := body308r }) := by rw [w2.fr Lr (by omega) L4 (hg0 _ ll), eC.2 Lr (by omega)]; exact bL
    have n2 := w2.n
    have hL5 : (A'.set X5 (some (.cells [.bool false] false))).get Lr = some (.loop { state := .busy, pending := none, tmps := T1, params := [24], assign := .ops [oM 6 24], body := body308r }) := by rw [get_set_ne (by omega) L5]; exact aL'
    simp (disch := as_aux_lemma => first | omega | simp only [hDs] <;> omega | simp [isCell]) [hRs, takeMarks, resA, resAll, resOne, Value.cells, j5, a5, storeB_cells, setRange_all]
    refine ⟨⟨_, hL5, rfl⟩, hok _ st' w1 ?_⟩
    have o1 : ∀ (k : Option ABlk) z, z ≠ X5 → z ≠ Lr → ((A'.set X5 (some (.cells [.bool false] false))).set Lr k).get z = A'.get z := fun k z h1 h2 => by rw [get_set_ne (by simp; omega) h2, get_set_ne (by omega) h1]
    obtain ⟨sv', y1, y2, y3⟩ := w2.x4
    refine ⟨fun z hz h4 h5 hs => ?_, by simp; omega, ⟨sv', by rw [o1 _ X4 n45 (Ne.symm L4)]; exact y1, y2.keepB fun z hz => o1 _ z (by have := (y2.blk_ge hz).1; omega) (by have := (y2.blk_ge hz).1; omega)⟩, ?_, ?_, w2.ev⟩
    · by_cases hzl : z = Lr
      · subst hzl
        rw [get_set_same hL5, hK.lr]
        rfl
      · rw [o1 _ z h5 hzl, w2.fr z (by omega) h4 (hg0 _ hz), cz z hz hzl, hO.fr z hz h4 h5 hs]
    · rw [get_set_ne (by simp; omega) (Ne.symm L5), get_set_same a5]
    · rw [o1 _ XS s5 sL, w2.fr XS (by omega) s4 (hg0 _ ls), cz XS ls sL]; exact hO.xs
  · obtain ⟨b1, b2, b3, b4⟩ := w2
    have b1' : C.n ≤ A'.n := b1
    have hln : Lr < A'.n := by omega
    have aL' : A'.get Lr = some (.loop { state := .busy, pending := none, tmps := T1, params := [24], assign := .ops [oM 6 24], body := body308r }) := by rw [b4 Lr (by omega) L4 L3 (hg0 _ ll), eC.2 Lr (by omega)]; exact bL
    simp (disch := as_aux_lemma => first | omega | simp only [hDs] <;> omega | simp [isCell]) [hRs, takeMarks, resA, resAll, resOne, Value.cells]
    refine ⟨⟨_, aL', rfl⟩, hbad _ w1 ⟨by simp; omega, by rw [get_set_ne hln (Ne.symm L2)]; exact b2, by rw [get_set_ne hln (Ne.symm L3)]; exact b3, by rw [get_set_same aL']; rfl, fun z hz h3 h4 h5 hs hl => ?_⟩⟩
    rw [get_set_ne hln hl, b4 z (by omega) h4 h3 (hg0 _ hz), cz z hz hl, hO.fr z hz h4 h5 hs]
  · simp [hK.t2]
  · simp [hK.t3]
  · simp [hK.t4]
  · simp [hK.t5]
  · simp [nB]
  · simp
  · simp
end
end Go.Ab.Grid
set_option maxRecDepth 100000
namespace Go.Ab.Grid
open Go Go.Ab
theorem linesF_nil : ∀ (f : Nat), linesF f [] = []
  | 0 => rfl
  | f + 1 => by rw [linesF, if_pos rfl]
theorem strNeq {x y : List UInt8} : strOpA .neq (strV x) (strV y) = some (.bool (!decide (x = y))) := by
  show some (Value.bool (!(x == y))) = _
  by_cases h : x = y
  · simp [h]
  · simp [h]
def readP (l : List UInt8) : Option PSt := parseA true ⟨0, 0, 0, []⟩ (linesF l.length l)
def PSt.E (st : PSt) : Int := gridE st.w st.h st.s (st.zs.length / 2) st.zs
def PSt.text (st : PSt) : List UInt8 := textL st.w st.h st.s st.zs
def PSt.G (st : PSt) : G := ⟨st.w, st.h, st.s, st.zs.length / 2, st.zs⟩
def RdV (A : Hp) (l : List UInt8) (vg : Value) (e : Int) : Prop :=
  (65536 < l.length ∧ e = 8 ∧ GAt A G0 vg) ∨ (l.length ≤ 65536 ∧ ((∃ st, readP l = some st ∧ st.E = 0 ∧ st.text = l ∧ e = 0 ∧ st.zs.length < 1000000 ∧ GAt A st.G vg) ∨ ((∀ st, readP l = some st → st.E = 0 → st.text ≠ l) ∧ e = 7 ∧ GAt A G0 vg)))
section
variable {g : Nat} {rd : Option Nat} {T : List Value} {D : List Nat} {A : Hp} {Q : Ex → St → Prop} {V : Value → Hp → Prop}
variable {M X2 X3 X4 X5 XS Lr : Nat} {C0 : Hp} {T1 : List Value}
theorem RdO.setS {head : Bool} {st : PSt} {rest rest' : List UInt8} (hO : RdO M X4 X5 XS C0 head st rest A) (h4 : XS ≠ X4) (h5 : XS ≠ X5) (hs : XS < M) : RdO M X4 X5 XS C0 head st rest' (A.set XS (some (.cells [strV rest'] false))) := by
  have hn := hO.n
  obtain ⟨sv, y1, y2⟩ := hO.x4
  have o : ∀ z, z ≠ XS → (A.set XS (some (.cells [strV rest'] false))).get z = A.get z := fun z hz => get_set_ne (by omega) hz
  exact ⟨fun z hz a b c => by rw [o z c, hO.fr z hz a b c], by simpa using hn, ⟨sv, by rw [o X4 (Ne.symm h4)]; exact y1, y2.keepB fun z hz => o z (by have := (y2.blk_ge hz).1; omega)⟩, by rw [o X5 (Ne.symm h5)]; exact hO.x5, get_set_same hO.xs, hO.ev⟩
theorem loop353 {R : Option PSt} (hK : RdK g M X2 X3 X4 X5 XS Lr C0 T1)
    (hQ : ∀ T' A' st' head', R = some st' → RdO M X4 X5 XS C0 head' st' [] A' → st'.zs.length ≤ 900000 → Q (.exit 0) ⟨T', D, A'⟩) (hR : ∀ T' A', R = none → RdE M X2 X3 X4 X5 XS Lr C0 T1 A' → Q .ret ⟨T', D, A'⟩) :
    ∀ (f : Nat) {T : List Value} {A : Hp} (head : Bool) (st : PSt) (rest : List UInt8), rest.length ≤ f → rest.length ≤ 70000 → st.zs.length + 6 * rest.length ≤ 900000 → RdO M X4 X5 XS C0 head st rest A → parseA head st (linesF f rest) = R →
      tget T 0 = .func (.yield Lr) #[] #[] → tget T 1 = .pointer (some ⟨XS, 0, none⟩) → W AP KL g rd (.loop body353) ⟨T, D, A⟩ Q := by
  have hlt := hK.lt
  have hnes := hK.nes
  have hgs := hK.g
  have hend : ∀ {T : List Value} {A : Hp} (head : Bool) (st : PSt), RdO M X4 X5 XS C0 head st [] A → st.zs.length ≤ 900000 → some st = R → tget T 1 = .pointer (some ⟨XS, 0, none⟩) → W AP KL g rd (.loop body353) ⟨T, D, A⟩ Q := by
    intro T A head st hO hz hp t1
    have hx := hO.xs
    rw [W_loop]
    simp (disch := as_aux_lemma => first | omega | simp only [hDs] <;> omega | simp [isCell]) [hRs, takeMarks, resA, resAll, resOne, Value.cells, body353, t1, hx, lenTV, goInt, show (⟨⟨([] : List UInt8)⟩⟩ : ByteArray).size = 0 from rfl]
    exact hQ _ _ st head hp.symm hO hz
  intro f
  induction f with
  | zero =>
    intro T A head st rest hf h7 hz hO hp t0 t1
    have : rest = [] := List.eq_nil_of_length_eq_zero (by omega)
    subst this
    exact hend head st hO (by omega) (by rw [← hp]; rfl) t1
  | succ f ih =>
    intro T A head st rest hf h7 hz hO hp t0 t1
    by_cases hr : rest = []
    · subst hr
      exact hend head st hO (by omega) (by rw [← hp, linesF_nil]; rfl) t1
    · have hl0 : 0 < rest.length := List.length_pos_iff.2 hr
      have hx := hO.xs
      have hsz : (⟨⟨rest⟩⟩ : ByteArray).size = rest.length := rfl
      have c354 : S354 g [strV rest, .int .u8 10] A = some (.int .i64 (idxB rest 10), A) := rfl
      rw [linesF, if_neg hr] at hp
      rw [W_loop]
      rcases idxA_rng 10 rest 0 with h | ⟨h1, h2⟩
      · have hi : idxB rest 10 = -1 := h
        rw [hi, if_neg (by decide)] at hp
        rw [hi] at c354
        simp (disch := as_aux_lemma => first | omega | simp only [hDs] <;> omega | simp [isCell]) [hRs, takeMarks, resA, resAll, resOne, Value.cells, body353, t0, t1, hx, lenTV, goInt, hsz, show (0 : Int) < (rest.length : Int) by omega, show 0 < rest.length by omega, WF_spec (show KL 354 = some S354 from rfl), c354, storeB_cells, setRange_all]
        refine y308 (line := rest) (rest := []) hK (hO.setS hnes.2.2.1 hnes.2.2.2.1 hlt.2.2.2.2.1) (by omega) (by omega) (fun A' st' w1 w2 => ?_) (fun A' w1 w2 => ?_)
        · simp (disch := as_aux_lemma => first | omega | simp only [hDs] <;> omega | simp [isCell]) [hRs, takeMarks, resA, resAll, resOne, Value.cells]
          rw [parseA, w1] at hp
          have := parseL_len w1
          have := fieldsD_len rest
          exact hend false st' w2 (by omega) hp (by simp [t1])
        · simp (disch := as_aux_lemma => first | omega | simp only [hDs] <;> omega | simp [isCell]) [hRs, takeMarks, resA, resAll, resOne, Value.cells]
          rw [parseA, w1] at hp
          exact hR _ _ hp.symm w2
      · have h1' : 0 ≤ idxB rest 10 := h1
        have h2' : idxB rest 10 < rest.length := by have : idxB rest 10 < ((0 : Nat) : Int) + rest.length := h2; omega
        obtain ⟨j, hj⟩ : ∃ j : Nat, idxB rest 10 = (j : Int) := ⟨(idxB rest 10).toNat, by omega⟩
        rw [hj, if_pos (by omega), Int.toNat_natCast] at hp
        rw [hj] at c354 h2'
        have e5 : wr .i64 ((j : Int) + 1) = ((j + 1 : Nat) : Int) := by rw [wrId (by omega) (by omega)]; simp
        obtain ⟨j1, hj1⟩ : ∃ j1, j1 = j + 1 := ⟨_, rfl⟩
        rw [← hj1] at e5 hp
        have st1 := strSl_to (l := rest) (j := j1) (by omega)
        have sf1 := strSl_from (l := rest) (j := j1) (by omega)
        simp (disch := as_aux_lemma => first | omega | simp only [hDs] <;> omega | simp [isCell]) [hRs, takeMarks, resA, resAll, resOne, Value.cells, body353, t0, t1, hx, lenTV, goInt, hsz, show (0 : Int) < (rest.length : Int) by omega, show 0 < rest.length by omega, WF_spec (show KL 354 = some S354 from rfl), c354, show (0 : Int) ≤ (j : Int) by omega, e5, boundA, intOfA, st1, sf1, storeB_cells, setRange_all]
        refine y308 (line := rest.take j1) (rest := rest.drop j1) hK (hO.setS hnes.2.2.1 hnes.2.2.2.1 hlt.2.2.2.2.1) (by rw [List.length_take]; omega) (by rw [List.length_take]; omega) (fun A' st' w1 w2 => ?_) (fun A' w1 w2 => ?_)
        · simp (disch := as_aux_lemma => first | omega | simp only [hDs] <;> omega | simp [isCell]) [hRs, takeMarks, resA, resAll, resOne, Value.cells]
          rw [parseA, w1] at hp
          have a := parseL_len w1
          have b := fieldsD_len (rest.take j1)
          rw [List.length_take] at b
          refine ih false st' (rest.drop j1) (by rw [List.length_drop]; omega) (by rw [List.length_drop]; omega) (by rw [List.length_drop]; omega) w2 hp ?_ ?_
          · simp [t0]
          · simp [t1]
        · simp (disch := as_aux_lemma => first | omega | simp only [hDs] <;> omega | simp [isCell]) [hRs, takeMarks, resA, resAll, resOne, Value.cells]
          rw [parseA, w1] at hp
          exact hR _ _ hp.symm w2
theorem range308 {l : List UInt8} {C : Hp} (hl : l.length ≤ 65536) (hg : g ≤ X2 ∧ g ≤ X3 ∧ g ≤ X4 ∧ g ≤ X5 ∧ g ≤ XS) (hlt : X2 < C.n ∧ X3 < C.n ∧ X4 < C.n ∧ X5 < C.n ∧ XS < C.n) (hne : X2 ≠ X3 ∧ X2 ≠ X4 ∧ X2 ≠ X5 ∧ X3 ≠ X4 ∧ X3 ≠ X5 ∧ X4 ≠ X5) (hns : XS ≠ X2 ∧ XS ≠ X3 ∧ XS ≠ X4 ∧ XS ≠ X5)
    (c2 : C.get X2 = some zeroG) (c3 : C.get X3 = some (.cells [.int .i64 0] false)) (c4 : C.get X4 = some zeroG) (c5 : C.get X5 = some (.cells [.bool true] false)) (cS : C.get XS = some (.cells [strV l] false))
    (t2 : tget T1 2 = .pointer (some ⟨X2, 0, none⟩)) (t3 : tget T1 3 = .pointer (some ⟨X3, 0, none⟩)) (t4 : tget T1 4 = .pointer (some ⟨X4, 0, none⟩)) (t5 : tget T1 5 = .pointer (some ⟨X5, 0, none⟩)) (t23 : tget T1 23 = .func (.func 353) ⟨[]⟩ ⟨[.pointer (some ⟨XS, 0, none⟩)]⟩)
    (hQ : ∀ A' st' sv, readP l = some st' → st'.zs.length ≤ 900000 → st'.zs.length % 2 = 0 → C.n ≤ A'.n → A'.get C.n = some .marks → A'.get X4 = some (.cells [.int .i64 st'.w, .int .i64 st'.h, .int .i64 st'.s, sv] false) → AccS (C.n + 2) A' 2 (ints st'.zs) sv → (∀ z, z < C.n → z ≠ X4 → z ≠ X5 → z ≠ XS → A'.get z = C.get z) → Q .normal ⟨T1, C.n :: D, A'⟩)
    (hR : ∀ A', readP l = none → C.n ≤ A'.n → A'.get C.n = some .marks → A'.get X2 = some zeroG → A'.get X3 = some (.cells [.int .i64 7] false) → (∀ z, z < C.n → z ≠ X3 → z ≠ X4 → z ≠ X5 → z ≠ XS → A'.get z = C.get z) → Q .ret ⟨T1, C.n :: D, A'⟩) :
    W AP KL g none (.rangeF (.t 23) [24] asg308 body308r) ⟨T1, D, C⟩ Q := by
  refine W_range (h := 353) (first := []) (captured := [.pointer (some ⟨XS, 0, none⟩)]) t23 ?_
  rw [WF_body (show KL 353 = none from rfl) (show AP 353 = some F353 from rfl)]
  obtain ⟨C0, hC0⟩ : ∃ C0, C0 = (C.push .marks).push (recL T1 [24] asg308 body308r) := ⟨_, rfl⟩
  rw [← hC0]
  have n0 : C0.n = C.n + 2 := by rw [hC0]; rfl
  have e0 : Ext' C C0 := by rw [hC0]; exact (Ext'.push _ _).trans (Ext'.push _ _)
  have m0 : C0.get C.n = some .marks := by rw [hC0, get_push_old (by simp), get_push_new]
  have r0 : C0.get (C.n + 1) = some (recL T1 [24] asg308 body308r) := by rw [hC0, get_push_eq (by simp)]
  obtain ⟨l2, l3, l4, l5, ls⟩ := hlt
  have hK : RdK g (C.n + 2) X2 X3 X4 X5 XS (C.n + 1) C0 T1 := ⟨⟨hg.1, hg.2.1, hg.2.2.1, hg.2.2.2.1, hg.2.2.2.2, by omega⟩, ⟨by omega, by omega, by omega, by omega, by omega, by omega⟩, hne, ⟨hns.1, hns.2.1, hns.2.2.1, hns.2.2.2, by omega⟩, ⟨by omega, by omega, by omega, by omega⟩, e0.get c2, e0.get c3, r0, t2, t3, t4, t5⟩
  have hO : RdO (C.n + 2) X4 X5 XS C0 true ⟨0, 0, 0, []⟩ l C0 := ⟨fun _ _ _ _ _ => rfl, by omega, ⟨.slice none 0 0, e0.get c4, AccS.nil⟩, e0.get c5, e0.get cS, rfl⟩
  simp (disch := as_aux_lemma => first | omega | simp only [hDs] <;> omega | simp [isCell]) [hRs, takeMarks, resA, resAll, resOne, Value.cells, F353]
  refine loop353 (R := readP l) hK (fun T' A' st' head' w1 w2 w3 => ?_) (fun T' A' w1 w2 => ?_) l.length true ⟨0, 0, 0, []⟩ l (Nat.le_refl _) (by omega) (by show 0 + 6 * l.length ≤ 900000; omega) hO rfl ?_ ?_
  · have hLr : A'.get (C.n + 1) = some (recL T1 [24] asg308 body308r) := by rw [w2.fr _ (by omega) (by omega) (by omega) (by omega)]; exact r0
    obtain ⟨sv, y1, y2⟩ := w2.x4
    have nA := w2.n
    simp (disch := as_aux_lemma => first | omega | simp only [hDs] <;> omega | simp [isCell]) [hRs, takeMarks, resA, resAll, resOne, Value.cells, EndQ, hLr, recL]
    have o : ∀ (k : Option ABlk) z, z ≠ C.n + 1 → (A'.set (C.n + 1) k).get z = A'.get z := fun k z hz => get_set_ne (by omega) hz
    refine hQ _ st' sv w1 w3 w2.ev (by simp; omega) (by rw [o _ _ (by omega), w2.fr _ (by omega) (by omega) (by omega) (by omega)]; exact m0) (by rw [o _ _ (by omega)]; exact y1) (y2.keepB fun z hz => o _ z (by have := (y2.blk_ge hz).1; omega)) fun z hz h4 h5 hs => ?_
    rw [o _ z (by omega), w2.fr z (by omega) h4 h5 hs, e0.2 z hz]
  · have nA := w2.n
    simp (disch := as_aux_lemma => first | omega | simp only [hDs] <;> omega | simp [isCell]) [hRs, takeMarks, resA, resAll, resOne, Value.cells, EndQ, w2.lr]
    have o : ∀ (k : Option ABlk) z, z ≠ C.n + 1 → (A'.set (C.n + 1) k).get z = A'.get z := fun k z hz => get_set_ne (by omega) hz
    refine hR _ w1 (by simp; omega) (by rw [o _ _ (by omega), w2.fr _ (by omega) (by omega) (by omega) (by omega) (by omega) (by omega)]; exact m0) (by rw [o _ _ (by omega)]; exact w2.x2) (by rw [o _ _ (by omega)]; exact w2.x3) fun z hz h3 h4 h5 hs => ?_
    rw [o _ z (by omega), w2.fr z (by omega) h3 h4 h5 hs (by omega), e0.2 z hz]
  all_goals simp
theorem w308 {l : List UInt8} (hl : l.length ≤ 900000) (hg : g ≤ A.n) (hV : ∀ A' vg e, Ext' A A' → RdV A' l vg e → V (.tuple ⟨[vg, .int .i64 e]⟩) A') : WF AP KL g 308 [strV l] A V := by
  rw [WF_body (show KL 308 = none from rfl) (show AP 308 = some F308 from rfl)]
  have hsz : (⟨⟨l⟩⟩ : ByteArray).size = l.length := rfl
  obtain ⟨B, hB⟩ : ∃ B, B = (A.push zeroG).push (.cells [.int .i64 0] false) := ⟨_, rfl⟩
  have eB : Ext' A B := by rw [hB]; exact (Ext'.push _ _).trans (Ext'.push _ _)
  have nB : B.n = A.n + 2 := by rw [hB]; rfl
  have b2 : B.get A.n = some zeroG := by rw [hB, get_push_old (by simp), get_push_eq (by omega)]
  have b3 : B.get (A.n + 1) = some (.cells [.int .i64 0] false) := by rw [hB, get_push_eq (by simp)]
  by_cases hlong : 65536 < l.length
  · have b3' : (B.set A.n (some zeroG)).get (A.n + 1) = some (.cells [.int .i64 0] false) := by rw [get_set_ne (by omega) (by omega)]; exact b3
    obtain ⟨B', hB'⟩ : ∃ B', B' = (B.set A.n (some zeroG)).set (A.n + 1) (some (.cells [.int .i64 8] false)) := ⟨_, rfl⟩
    have z2 : B'.get A.n = some zeroG := by rw [hB', get_set_ne (by simp; omega) (by omega), get_set_same b2]
    have z3 : B'.get (A.n + 1) = some (.cells [.int .i64 8] false) := by rw [hB', get_set_same b3']
    unfold zeroG at hB b2 b3' hB' z2
    simp (disch := as_aux_lemma => first | omega | simp only [hDs] <;> omega | simp [isCell]) [hRs, takeMarks, resA, resAll, resOne, Value.cells, F308, lenTV, goInt, hsz, show (65536 : Int) < (l.length : Int) by omega, hlong, ← hB, fillA, storeB_cells, setRange_all, b2, b3, b3', ← hB', z2, z3]
    refine hV B' _ _ ⟨by rw [hB']; simp; omega, fun z hz => ?_⟩ (.inl ⟨hlong, rfl, GAt.zero⟩)
    rw [hB', get_set_ne (by simp; omega) (by omega), get_set_ne (by omega) (by omega), eB.2 z hz]
  · obtain ⟨C, hC⟩ : ∃ C, C = ((B.push zeroG).push (.cells [.bool true] false)).push (.cells [strV l] false) := ⟨_, rfl⟩
    have eC : Ext' B C := by rw [hC]; exact ((Ext'.push _ _).trans (Ext'.push _ _)).trans (Ext'.push _ _)
    have nC : C.n = A.n + 5 := by rw [hC]; simp [nB]
    have c4 : C.get (A.n + 2) = some zeroG := by rw [hC, get_push_old (by simp; omega), get_push_old (by simp; omega), get_push_eq (by omega)]
    have c5 : C.get (A.n + 3) = some (.cells [.bool true] false) := by rw [hC, get_push_old (by simp; omega), get_push_eq (by simp; omega)]
    have cS : C.get (A.n + 4) = some (.cells [strV l] false) := by rw [hC, get_push_eq (by simp; omega)]
    unfold zeroG at hB hC
    simp (disch := as_aux_lemma => first | omega | simp only [hDs] <;> omega | simp [isCell]) [hRs, takeMarks, resA, resAll, resOne, Value.cells, F308, lenTV, goInt, hsz, show ¬ (65536 : Int) < (l.length : Int) by omega, hlong, ← hB, nB, fillA, storeB_cells, setRange_all, set_push_eq, WF_body (K := KL) rfl (show AP 342 = some F342 from rfl), F342, ← hC]
    refine range308 (X2 := A.n) (X3 := A.n + 1) (X4 := A.n + 2) (X5 := A.n + 3) (XS := A.n + 4) (by omega) ⟨by omega, by omega, by omega, by omega, by omega⟩ ⟨by omega, by omega, by omega, by omega, by omega⟩ ⟨by omega, by omega, by omega, by omega, by omega, by omega⟩ ⟨by omega, by omega, by omega, by omega⟩
      (eC.get b2) (eC.get b3) c4 c5 cS ?_ ?_ ?_ ?_ ?_ (fun A' st sv w1 w2 w3 w4 w5 w6 w7 w8 => ?_) (fun A' w1 w2 w3 w4 w5 w6 => ?_)
    · simp
    · simp
    · simp
    · simp
    · simp
    · obtain ⟨p, n, c, rfl⟩ := w7.isSlice
      have hmk := Hp.lt_of_get w5
      have rZ : RdS A' 2 (st.zs.length / 2) (ints st.zs) (.slice p n c) := w7.rd (by rw [ints_length]; omega) (by decide)
      have ef : ∀ z, z < A.n → A'.get z = A.get z := fun z hz => by rw [w8 z (by omega) (by omega) (by omega) (by omega), eC.2 z (by omega), eB.2 z hz]
      have u2 : A'.get A.n = some zeroG := by rw [w8 _ (by omega) (by omega) (by omega) (by omega), eC.2 _ (by omega)]; exact b2
      have u3 : A'.get (A.n + 1) = some (.cells [.int .i64 0] false) := by rw [w8 _ (by omega) (by omega) (by omega) (by omega), eC.2 _ (by omega)]; exact b3
      simp (disch := as_aux_lemma => first | omega | simp only [hDs] <;> omega | simp [isCell]) [hRs, takeMarks, resA, resAll, resOne, Value.cells, BlkQ, SeqQ, w6]
      refine w306 (w := st.w) (h := st.h) (s := st.s) (m := st.zs.length / 2) (zs := st.zs) (by omega) rZ (by omega) fun A2 t e e2 hW => ?_
      have n2 := e2.1
      have v2 := e2.get u2
      have v3 := e2.get u3
      have v4 := e2.get w6
      have v5 := e2.get w5
      have v2' : ∀ k, (A2.set A.n k).get (A.n + 1) = some (.cells [.int .i64 0] false) := fun k => by rw [get_set_ne (by omega) (by omega)]; exact v3
      have fin : ∀ (x y : ABlk), ∃ A4, ((A2.set A.n (some x)).set (A.n + 1) (some y)).get C.n = some .marks ∧ ((A2.set A.n (some x)).set (A.n + 1) (some y)).set C.n none = A4 ∧ A4.get A.n = some x ∧ A4.get (A.n + 1) = some y ∧ Ext' A A4 ∧ ∀ z, C.n < z → A4.get z = A2.get z := fun x y => by
        have m1 : ((A2.set A.n (some x)).set (A.n + 1) (some y)).get C.n = some .marks := by rw [get_set_ne (by simp; omega) (by omega), get_set_ne (by omega) (by omega)]; exact v5
        refine ⟨((A2.set A.n (some x)).set (A.n + 1) (some y)).set C.n none, m1, rfl, ?_, ?_, ⟨by simp; omega, fun z hz => ?_⟩, fun z hz => ?_⟩
        · rw [get_set_ne (by simp; omega) (by omega), get_set_ne (by simp; omega) (by omega), get_set_same v2]
        · rw [get_set_ne (by simp; omega) (by omega), get_set_same (v2' _)]
        · rw [get_set_ne (by simp; omega) (by omega), get_set_ne (by simp; omega) (by omega), get_set_ne (by omega) (by omega), e2.2 z (by omega), ef z hz]
        · rw [get_set_ne (by simp; omega) (by omega), get_set_ne (by simp; omega) (by omega), get_set_ne (by omega) (by omega)]
      obtain ⟨A4, f0, f1, f2, f3, f4, f5⟩ := fin zeroG (.cells [.int .i64 7] false)
      have v2s := v2' (some zeroG)
      have bad : (st.E = 0 → st.text ≠ l) → V (.tuple ⟨[gridV 0 0 0 (.slice none 0 0), .int .i64 7]⟩) A4 := fun hb =>
        hV A4 _ _ f4 (.inr ⟨by omega, .inr ⟨fun st' hst' => by
          rw [w1] at hst'
          obtain rfl := Option.some.inj hst'
          exact hb, rfl, GAt.zero⟩⟩)
      unfold zeroG at v2 f0 f1 f2 v2s
      rcases hW with ⟨h1, rfl, h3⟩ | ⟨h1, rfl, rfl⟩
      · have h1' : ¬ e = 0 := by rw [h3]; exact h1
        simp (disch := as_aux_lemma => first | omega | simp only [hDs] <;> omega | simp [isCell]) [hRs, takeMarks, resA, resAll, resOne, Value.cells, h1', v2, v2s, storeB_cells, setRange_all, fillA, f0, f1, f2, f3]
        exact bad fun h => absurd h h1
      · by_cases htl : st.text = l
        · have htl' : textL st.w st.h st.s st.zs = l := htl
          obtain ⟨A5, k0, k1, k2, k3, k4, k5⟩ := fin (.cells [.int .i64 st.w, .int .i64 st.h, .int .i64 st.s, .slice p n c] false) (.cells [.int .i64 0] false)
          have v2t := v2' (some (.cells [.int .i64 st.w, .int .i64 st.h, .int .i64 st.s, .slice p n c] false))
          simp (disch := as_aux_lemma => first | omega | simp only [hDs] <;> omega | simp [isCell]) [hRs, takeMarks, resA, resAll, resOne, Value.cells, strNeq, htl', v2, v2t, v4, storeB_cells, setRange_all, k0, k1, k2, k3]
          have hpn : n = st.zs.length / 2 := by
            obtain ⟨_, ⟨h, h0⟩ | ⟨_, _, _, h, _⟩⟩ := rZ
            · cases h; omega
            · cases h; rfl
          subst hpn
          refine hV A5 _ _ k4 (.inr ⟨by omega, .inl ⟨st, w1, h1, htl, rfl, by omega, _, rfl, ?_⟩⟩)
          exact (e2.rdS rZ).keepB fun z hz => k5 z (by have := (w7.blk_ge hz).1; omega)
        · have htl' : ¬ textL st.w st.h st.s st.zs = l := htl
          simp (disch := as_aux_lemma => first | omega | simp only [hDs] <;> omega | simp [isCell]) [hRs, takeMarks, resA, resAll, resOne, Value.cells, strNeq, decide_eq_false htl', v2, v2s, storeB_cells, setRange_all, fillA, f0, f1, f2, f3]
          exact bad fun _ => htl
    · have hmk := Hp.lt_of_get w3
      have wm : (A'.set C.n none).get A.n = some zeroG := by rw [get_set_ne hmk (by omega)]; exact w4
      have wm3 : (A'.set C.n none).get (A.n + 1) = some (.cells [.int .i64 7] false) := by rw [get_set_ne hmk (by omega)]; exact w5
      simp (disch := as_aux_lemma => first | omega | simp only [hDs] <;> omega | simp [isCell]) [hRs, takeMarks, resA, resAll, resOne, Value.cells, BlkQ, SeqQ, takeMarks, w3, wm, wm3, zeroG]
      refine hV _ _ _ ⟨by simp; omega, fun z hz => ?_⟩ (.inr ⟨by omega, .inr ⟨fun st hst => absurd hst (by rw [w1]; simp), rfl, GAt.zero⟩⟩)
      rw [get_set_ne hmk (by omega), w6 z (by omega) (by omega) (by omega) (by omega) (by omega), eC.2 z (by omega), eB.2 z hz]
end
end Go.Ab.Grid
