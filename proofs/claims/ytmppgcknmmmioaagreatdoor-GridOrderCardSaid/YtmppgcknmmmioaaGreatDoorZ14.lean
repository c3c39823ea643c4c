/- A land by numbers among a law's arguments. -/
import Derived.Test.YtmppgcknmmmioaaGreatDoorZ13
import Derived.Test.YtmppgcknmmmioaaGreatDoorZ12
set_option linter.unusedSimpArgs false
set_option linter.unusedVariables false
set_option linter.unusedSectionVars false
set_option maxRecDepth 100000
namespace Go.Ab.Grid
open Go Go.Ab
def sndC (m : Nat) (ls : List Int) (i : Nat) : Int :=
  if (decide (0 ≤ gi ls (i * 3)) && decide (gi ls (i * 3) ≤ (m : Int) - 1)) = true then
    if (decide (-1200000 ≤ gi ls (i * 3 + 1)) && decide (gi ls (i * 3 + 1) ≤ 1200000)) = true then if (decide (0 ≤ gi ls (i * 3 + 2)) && decide (gi ls (i * 3 + 2) ≤ 100000)) = true then 0 else 3 else 3
  else 4
def sndE (m : Nat) (ls : List Int) : Nat → Nat → Int
  | 0, _ => 0
  | k + 1, i => if sndC m ls i = 0 then sndE m ls k (i + 1) else sndC m ls i
theorem sndE_all {m : Nat} {ls : List Int} : ∀ {k i : Nat}, sndE m ls k i = 0 → ∀ j, i ≤ j → j < i + k → sndC m ls j = 0
  | 0, i, _, j, h1, h2 => by omega
  | k + 1, i, h, j, h1, h2 => by
    unfold sndE at h
    split at h
    · rename_i hc
      by_cases hj : j = i
      · rw [hj]; exact hc
      · exact sndE_all h j (by omega) (by omega)
    · rename_i hc; exact absurd h hc
theorem sndC_zero {m : Nat} {ls : List Int} {i : Nat} (h : sndC m ls i = 0) : (0 ≤ gi ls (i * 3) ∧ gi ls (i * 3) ≤ (m : Int) - 1) ∧ (-1200000 ≤ gi ls (i * 3 + 1) ∧ gi ls (i * 3 + 1) ≤ 1200000) ∧ (0 ≤ gi ls (i * 3 + 2) ∧ gi ls (i * 3 + 2) ≤ 100000) := by
  unfold sndC at h
  split at h
  · rename_i h1
    split at h
    · rename_i h2
      split at h
      · rename_i h3
        simp only [Bool.and_eq_true, decide_eq_true_eq] at h1 h2 h3
        exact ⟨h1, h2, h3⟩
      · cases h
    · cases h
  · cases h
def meaStep (ls : List Int) (i : Nat) (cur : List Int) : Option (List Int) := meetZ cur (gi ls (i * 3)).toNat (gi ls (i * 3 + 1) - gi ls (i * 3 + 2)) (gi ls (i * 3 + 1) + gi ls (i * 3 + 2))
def meaF (x : G) (n : Nat) (ls : List Int) : G × Int × Int :=
  if x.E = 0 then if (n : Int) ≤ 4096 then if sndE x.m ls n 0 = 0 then outG x (goM (meaStep ls) n 0 x.zs) else (G0, 0, sndE x.m ls n 0) else (G0, 0, 9) else (G0, 0, x.E)
section
variable {g : Nat} {rd : Option Nat} {T : List Value} {D : List Nat} {A : Hp} {Q : Ex → St → Prop} {V : Value → Hp → Prop}
theorem loop302a {A0 : Hp} {X4 XG m n : Nat} {w h s : Int} {ls : List Int} {sx sl : Value} (hsl : RdS A0 3 n (ints ls) sl) (hn : n < 1000000) (hlen : lenV sx = some (.int .i64 m)) (hm0 : m < 1000000) (hg4 : g ≤ X4)
    (h4 : A0.get X4 = some zeroG) (hG : A0.get XG = some (.cells [.int .i64 w, .int .i64 h, .int .i64 s, sx] false)) (hgn : g ≤ A0.n)
    {r : Int}
    (hQ : ∀ T' A', r = 0 → Ext' A0 A' → tget T' 4 = .pointer (some ⟨X4, 0, none⟩) → tget T' 2 = .pointer (some ⟨XG, 0, none⟩) → tget T' 1 = sl → Q (.exit 0) ⟨T', D, A'⟩)
    (hR : ∀ T' A', r ≠ 0 → Ext' A0 A' → tget T' 4 = .pointer (some ⟨X4, 0, none⟩) → tget T' 5 = .int .i64 0 → tget T' 6 = .int .i64 r → Q .ret ⟨T', D, A'⟩) :
    ∀ (k i : Nat) {T : List Value} {A : Hp}, i + k = n → sndE m ls k i = r → Ext' A0 A →
      tget T 4 = .pointer (some ⟨X4, 0, none⟩) → tget T 2 = .pointer (some ⟨XG, 0, none⟩) → tget T 1 = sl → tget T 25 = sl → tget T 26 = .int .i64 n → tget T 27 = .int .i64 i → W AP KL g rd (.loop body302a) ⟨T, D, A⟩ Q := by
  intro k
  have ll : ls.length = n * 3 := by have := hsl.1; simpa using this
  have h4n := Hp.lt_of_get h4
  have hGn := Hp.lt_of_get hG
  have em : wr .i64 ((m : Int) - 1) = (m : Int) - 1 := wrId (by omega) (by omega)
  induction k with
  | zero =>
    intro i T A hi hr hb t4 t2 t1 t25 t26 t27
    rw [W_loop]
    simp (disch := as_aux_lemma => first | omega | simp only [hDs] <;> omega | simp [isCell]) [hRs, takeMarks, resA, resAll, resOne, Value.cells, body302a, t26, t27, show ¬ ((i : Int) < n) by omega]
    exact hQ _ _ hr.symm hb (by simp [t4]) (by simp [t2]) (by simp [t1])
  | succ k ih =>
    intro i T A hi hr hb t4 t2 t1 t25 t26 t27
    have e5 : wr .i64 ((i : Int) + 1) = ((i + 1 : Nat) : Int) := by rw [wrId (by omega) (by omega)]; simp
    have hAn := hb.1
    have hsA := hb.rdS hsl
    obtain ⟨xb, xc, xr, rfl, hxb⟩ := hsA.at (show i < n by omega)
    have aG := hb.get hG
    have a4 := hb.get h4
    unfold sndE at hr
    have ex : ∀ b, Ext' A0 (A.push b) := fun b => hb.trans (Ext'.push _ _)
    have bad : ∀ (T' : List Value) (b : ABlk), r ≠ 0 → tget T' 4 = .pointer (some ⟨X4, 0, none⟩) → tget T' 5 = .int .i64 0 → tget T' 6 = .int .i64 r → Q .ret ⟨T', D, (A.set X4 (some zeroG)).push b⟩ := fun T' b hne k4 k5 k6 => hR T' _ hne (hb.trans ((set_same a4).trans (Ext'.push _ _))) k4 k5 k6
    rw [W_loop]
    by_cases c1 : (decide (0 ≤ gi ls (i * 3)) && decide (gi ls (i * 3) ≤ (m : Int) - 1)) = true
    · have c1' := c1
      simp only [Bool.and_eq_true, decide_eq_true_eq] at c1'
      by_cases c2 : (decide (-1200000 ≤ gi ls (i * 3 + 1)) && decide (gi ls (i * 3 + 1) ≤ 1200000)) = true
      · have c2' := c2
        simp only [Bool.and_eq_true, decide_eq_true_eq] at c2'
        by_cases c3 : (decide (0 ≤ gi ls (i * 3 + 2)) && decide (gi ls (i * 3 + 2) ≤ 100000)) = true
        · have c3' := c3
          simp only [Bool.and_eq_true, decide_eq_true_eq] at c3'
          have hz : sndC m ls i = 0 := by rw [sndC, if_pos c1, if_pos c2, if_pos c3]
          rw [if_pos hz] at hr
          simp (disch := as_aux_lemma => first | omega | simp only [hDs] <;> omega | simp [isCell]) [hRs, takeMarks, resA, resAll, resOne, Value.cells, body302a, t2, t4, t25, t26, t27, show ((i : Int) < n) by omega, show i < n by omega, idxSA_ok, hxb, ints_3, ll, storeB_cells, setRange_all, set_push_eq, aG, hlen, em, w55i, c1', c2', c3', e5]
          refine ih (i + 1) (by omega) hr (ex _) ?_ ?_ ?_ ?_ ?_ ?_
          all_goals simp [t1, t2, t4, t25, t26]
        · have hz : sndC m ls i = 3 := by rw [sndC, if_pos c1, if_pos c2, if_neg c3]
          have c3' : (!decide (0 ≤ gi ls (i * 3 + 2)) || !decide (gi ls (i * 3 + 2) ≤ 100000)) = true := by
            simp only [Bool.and_eq_true, decide_eq_true_eq] at c3
            simp only [Bool.or_eq_true, Bool.not_eq_true', decide_eq_false_iff_not]
            omega
          rw [if_neg (by rw [hz]; decide), hz] at hr
          simp (disch := as_aux_lemma => first | omega | simp only [hDs] <;> omega | simp [isCell]) [hRs, takeMarks, resA, resAll, resOne, Value.cells, body302a, t2, t4, t25, t26, t27, show ((i : Int) < n) by omega, show i < n by omega, idxSA_ok, hxb, ints_3, ll, storeB_cells, setRange_all, set_push_eq, aG, hlen, em, w55i, c1', c2', c3', e5, fillA, a4]
          exact bad _ _ (by rw [← hr]; decide) (by simp [t4]) (by simp) (by simp [← hr])
      · have hz : sndC m ls i = 3 := by rw [sndC, if_pos c1, if_neg c2]
        have c2' : (!decide (-1200000 ≤ gi ls (i * 3 + 1)) || !decide (gi ls (i * 3 + 1) ≤ 1200000)) = true := by
          simp only [Bool.and_eq_true, decide_eq_true_eq] at c2
          simp only [Bool.or_eq_true, Bool.not_eq_true', decide_eq_false_iff_not]
          omega
        rw [if_neg (by rw [hz]; decide), hz] at hr
        simp (disch := as_aux_lemma => first | omega | simp only [hDs] <;> omega | simp [isCell]) [hRs, takeMarks, resA, resAll, resOne, Value.cells, body302a, t2, t4, t25, t26, t27, show ((i : Int) < n) by omega, show i < n by omega, idxSA_ok, hxb, ints_3, ll, storeB_cells, setRange_all, set_push_eq, aG, hlen, em, w55i, c1', c2', e5, fillA, a4]
        exact bad _ _ (by rw [← hr]; decide) (by simp [t4]) (by simp) (by simp [← hr])
    · have hz : sndC m ls i = 4 := by rw [sndC, if_neg c1]
      have c1' : (!decide (0 ≤ gi ls (i * 3)) || !decide (gi ls (i * 3) ≤ (m : Int) - 1)) = true := by
        simp only [Bool.and_eq_true, decide_eq_true_eq] at c1
        simp only [Bool.or_eq_true, Bool.not_eq_true', decide_eq_false_iff_not]
        omega
      rw [if_neg (by rw [hz]; decide), hz] at hr
      simp (disch := as_aux_lemma => first | omega | simp only [hDs] <;> omega | simp [isCell]) [hRs, takeMarks, resA, resAll, resOne, Value.cells, body302a, t2, t4, t25, t26, t27, show ((i : Int) < n) by omega, show i < n by omega, idxSA_ok, hxb, ints_3, ll, storeB_cells, setRange_all, set_push_eq, aG, hlen, em, w55i, c1', e5, fillA, a4]
      exact bad _ _ (by rw [← hr]; decide) (by simp [t4]) (by simp) (by simp [← hr])
theorem loop302 {A0 : Hp} {X4 X10 Y c m n : Nat} {w h s : Int} {ls : List Int} {sl : Value} (hsl : RdS A0 3 n (ints ls) sl) (hn : n < 1000000) (hm0 : m < 1000000) (hY : ∀ z, blkOf sl = some z → z ≠ Y) (hYn : Y < A0.n) (hgY : g ≤ Y) (hg4 : g ≤ X4) (hX4 : X4 ≠ Y) (hX10 : X10 ≠ Y)
    (h4 : A0.get X4 = some zeroG) (h10 : A0.get X10 = some (.cells [.int .i64 w, .int .i64 h, .int .i64 s, .slice (some ⟨Y, 0, some 2⟩) m c] false)) (hok : ∀ j, j < n → sndC m ls j = 0)
    {r : Except Nat (List Int)}
    (hQ : ∀ T' A' cur, r = .ok cur → But Y A0 A' → A'.get Y = some (.cells (ints cur) false) → cur.length = m * 2 → tget T' 4 = .pointer (some ⟨X4, 0, none⟩) → tget T' 10 = .pointer (some ⟨X10, 0, none⟩) → Q (.exit 3) ⟨T', D, A'⟩)
    (hR : ∀ T' A' j, r = .error j → But Y A0 A' → tget T' 4 = .pointer (some ⟨X4, 0, none⟩) → tget T' 5 = .int .i64 (j : Nat) → tget T' 6 = .int .i64 14 → Q .ret ⟨T', D, A'⟩) :
    ∀ (k i : Nat) {T : List Value} {A : Hp} (cur : List Int), i + k = n → goM (meaStep ls) k i cur = r → cur.length = m * 2 → But Y A0 A → A.get Y = some (.cells (ints cur) false) →
      tget T 4 = .pointer (some ⟨X4, 0, none⟩) → tget T 10 = .pointer (some ⟨X10, 0, none⟩) → tget T 56 = sl → tget T 57 = .int .i64 n → tget T 58 = .int .i64 i → W AP KL g rd (.loop body302) ⟨T, D, A⟩ Q := by
  intro k
  have ll : ls.length = n * 3 := by have := hsl.1; simpa using this
  have hX4n := Hp.lt_of_get h4
  have hX10n := Hp.lt_of_get h10
  induction k with
  | zero =>
    intro i T A cur hi hr hc hb hA t4 t10 t56 t57 t58
    rw [W_loop]
    simp (disch := as_aux_lemma => first | omega | simp only [hDs] <;> omega | simp [isCell]) [hRs, takeMarks, resA, resAll, resOne, Value.cells, body302, t57, t58, show ¬ ((i : Int) < n) by omega]
    exact hQ _ _ cur hr.symm hb hA hc (by simp [t4]) (by simp [t10])
  | succ k ih =>
    intro i T A cur hi hr hc hb hA t4 t10 t56 t57 t58
    have e5 : wr .i64 ((i : Int) + 1) = ((i + 1 : Nat) : Int) := by rw [wrId (by omega) (by omega)]; simp
    have hAn := hb.1
    have hsA := hsl.keepB (A' := A) fun z hz => hb.2 z (hsl.blk_lt hz) (hY z hz)
    obtain ⟨yb, yc, yr, rfl, hyb⟩ := hsA.at (show i < n by omega)
    have hybn := Hp.lt_of_get hyb
    have a10 : A.get X10 = some (.cells [.int .i64 w, .int .i64 h, .int .i64 s, .slice (some ⟨Y, 0, some 2⟩) m c] false) := by rw [hb.2 _ hX10n hX10]; exact h10
    have a4 : A.get X4 = some zeroG := by rw [hb.2 _ hX4n hX4]; exact h4
    obtain ⟨⟨d1, d2⟩, ⟨d3, d4⟩, d5, d6⟩ := sndC_zero (hok i (by omega))
    obtain ⟨cN, hcN⟩ : ∃ cN : Nat, gi ls (i * 3) = (cN : Int) := ⟨(gi ls (i * 3)).toNat, by omega⟩
    have e6 : wr .i64 (gi ls (i * 3 + 1) - gi ls (i * 3 + 2)) = gi ls (i * 3 + 1) - gi ls (i * 3 + 2) := wrId (by omega) (by omega)
    have e7 : wr .i64 (gi ls (i * 3 + 1) + gi ls (i * 3 + 2)) = gi ls (i * 3 + 1) + gi ls (i * 3 + 2) := wrId (by omega) (by omega)
    have hcm : cN < m := by omega
    have hYA := Hp.lt_of_get hA
    unfold goM meaStep meetZ at hr
    rw [hcN, Int.toNat_natCast] at hr
    rw [W_loop]
    simp (disch := as_aux_lemma => first | omega | simp only [hDs] <;> omega | simp [isCell]) [hRs, takeMarks, resA, resAll, resOne, Value.cells, body302, t4, t10, t56, t57, t58, show ((i : Int) < n) by omega, show i < n by omega, idxSA_ok, hyb, ints_3, ints_two, ll, hc, storeB_cells, setRange_all, setRange, set_push_eq, a10, hA, hcN, hcm, e6, e7, fillA]
    obtain ⟨C, hC⟩ : ∃ C, C = A.push (.cells [.int .i64 cN, .int .i64 (gi ls (i * 3 + 1)), .int .i64 (gi ls (i * 3 + 2))] false) := ⟨_, rfl⟩
    rw [← hC]
    have eC : Ext' A C := by rw [hC]; exact Ext'.push _ _
    have nC := eC.1
    have cN' : C.get A.n = some (.cells [.int .i64 cN, .int .i64 (gi ls (i * 3 + 1)), .int .i64 (gi ls (i * 3 + 2))] false) := by rw [hC]; exact get_push_new
    refine w327 (by rw [hC]; simp) fun A1 e1 => ?_
    have e01 := eC.trans e1
    have n1 := e01.1
    have aN := e1.get cN'
    have hNn := Hp.lt_of_get aN
    have hA' := e01.get hA
    have a10' := e01.get a10
    by_cases hm' : max (gi cur (cN * 2)) (gi ls (i * 3 + 1) - gi ls (i * 3 + 2)) ≤ min (gi cur (cN * 2 + 1)) (gi ls (i * 3 + 1) + gi ls (i * 3 + 2))
    · rw [if_pos hm'] at hr
      simp (disch := as_aux_lemma => first | omega | simp only [hDs] <;> omega | simp [isCell]) [hRs, takeMarks, resA, resAll, resOne, Value.cells, hm', t10, a10', aN, storeB_cells, setRange_all, set_push_eq, hcm, idxSA_ok, hA', hc, setRange_two, t56, t57, t58, e5]
      refine ih (i + 1) _ (by omega) hr (by simp [hc]) (hb.trans (But.trans (But.set hYA e01) (But.of_ext (Ext'.push _ _)))) ?_ ?_ ?_ ?_ ?_ ?_
      · rw [get_push_old (by simp; omega)]
        exact get_set_same hA'
      all_goals simp [t4, t10, t56, t57]
    · rw [if_neg hm'] at hr
      simp (disch := as_aux_lemma => first | omega | simp only [hDs] <;> omega | simp [isCell]) [hRs, takeMarks, resA, resAll, resOne, Value.cells, hm', t4, e01.get a4, storeB_cells, setRange_all, set_push_eq, fillA]
      refine hR _ _ i hr.symm ?_ (by simp [t4]) (by simp) (by simp)
      exact hb.trans (But.of_ext ((e01.trans (set_same (e01.get a4))).trans (Ext'.push _ _)))
theorem w302 {x : G} {vx sl : Value} {n : Nat} {ls : List Int} (hx : GAt A x vx) (hsl : RdS A 3 n (ints ls) sl) (hmx : x.m < 1000000) (hn : n < 1000000) (hg : g ≤ A.n)
    (hV : ∀ A' v, Ext' A A' → GV3 A' (meaF x n ls) v → V v A') : WF AP KL g 302 [vx, sl] A V := by
  obtain ⟨sx, rfl, rx⟩ := hx
  obtain ⟨px, cx, rfl⟩ := rx.isSlice'
  rw [WF_body (show KL 302 = none from rfl) (show AP 302 = some F302 from rfl)]
  obtain ⟨B, hB⟩ : ∃ B, B = (A.push (.cells [.int .i64 x.w, .int .i64 x.h, .int .i64 x.s, .slice px x.m cx] false)).push zeroG := ⟨_, rfl⟩
  have eB : Ext' A B := by rw [hB]; exact (Ext'.push _ _).trans (Ext'.push _ _)
  have nB : B.n = A.n + 2 := by rw [hB]; rfl
  have b0 : B.get A.n = some (.cells [.int .i64 x.w, .int .i64 x.h, .int .i64 x.s, .slice px x.m cx] false) := by rw [hB, get_push_old (by simp), get_push_eq (by omega)]
  have b2 : B.get (A.n + 1) = some zeroG := by rw [hB, get_push_eq (by simp)]
  unfold zeroG at hB
  have hl := hsl.len
  simp (disch := as_aux_lemma => first | omega | simp only [hDs] <;> omega | simp [isCell]) [hRs, takeMarks, resA, resAll, resOne, Value.cells, F302, gridV, ← hB, b0]
  refine w37 (eB.rdS rx) hmx fun A1 e1 => ?_
  have e01 := eB.trans e1
  have n1 := e1.1
  have fin : ∀ (A' : Hp) (e : Int), Ext' B A' → meaF x n ls = (G0, 0, e) → V (.tuple ⟨[gridV 0 0 0 (.slice none 0 0), .int .i64 0, .int .i64 e]⟩) (A'.set (A.n + 1) (some zeroG)) := fun A' e he hn => by
    refine hV _ _ ((eB.trans he).trans (set_same (he.get b2))) ?_
    rw [hn]
    exact GAt.zero.tuple
  by_cases hE1 : gridE x.w x.h x.s x.m x.zs = 0
  · by_cases h4096 : (n : Int) ≤ 4096
    · simp (disch := as_aux_lemma => first | omega | simp only [hDs] <;> omega | simp [isCell]) [hRs, takeMarks, resA, resAll, resOne, Value.cells, hE1, hl, show ¬ (4096 : Int) < n by omega]
      refine loop302a (X4 := A.n + 1) (XG := A.n) (m := x.m) (w := x.w) (h := x.h) (s := x.s) (e01.rdS hsl) hn rx.len hmx (by omega) (e1.get b2) (e1.get b0) (by omega) (r := sndE x.m ls n 0)
        (fun T1 A2 hr e2 t4 t2 t1 => ?_) (fun T1 A2 hr e2 t4 t5 t6 => ?_) n 0 (by omega) rfl ⟨Nat.le_refl _, fun _ _ => rfl⟩ ?_ ?_ ?_ ?_ ?_ ?_
      · have e12 := e1.trans e2
        have e02 := eB.trans e12
        have n2 := e2.1
        have hlx : x.zs.length = x.m * 2 := by have := rx.1; simpa using this
        simp (disch := as_aux_lemma => first | omega | simp only [hDs] <;> omega | simp [isCell]) [hRs, takeMarks, resA, resAll, resOne, Value.cells, t1, t2, t4, e12.get b0]
        refine w326 (e02.rdS rx) (gridE_zero hE1) hmx (by omega) fun A3 Y c e3 hYn hY => ?_
        have n3 := e3.1
        have hYA := Hp.lt_of_get hY
        simp (disch := as_aux_lemma => first | omega | simp only [hDs] <;> omega | simp [isCell]) [hRs, takeMarks, resA, resAll, resOne, Value.cells, gridV, storeB_cells, setRange_all, set_push_eq, t1, hl]
        obtain ⟨C2, hC2⟩ : ∃ C2, C2 = A3.push (.cells [.int .i64 x.w, .int .i64 x.h, .int .i64 x.s, .slice (some ⟨Y, 0, some 2⟩) x.m c] false) := ⟨_, rfl⟩
        have eC2 : Ext' A3 C2 := by rw [hC2]; exact Ext'.push _ _
        have e03 := (e02.trans e3).trans eC2
        have eB3 := (e12.trans e3).trans eC2
        have nC2 : C2.n = A3.n + 1 := by rw [hC2]; rfl
        rw [← hC2]
        refine loop302 (X4 := A.n + 1) (X10 := A3.n) (Y := Y) (c := c) (m := x.m) (n := n) (w := x.w) (h := x.h) (s := x.s) (ls := ls) (sl := sl) (e03.rdS hsl) hn hmx ?_ (by omega) (by omega) (by omega) (by omega) (by omega) (eB3.get b2) (by rw [hC2, get_push_new]) (fun j hj => sndE_all hr j (by omega) (by omega)) (r := goM (meaStep ls) n 0 x.zs)
          (fun T' A' cur hr' hb hA' hl' t4' t10' => ?_) (fun T' A' j hr' hb t4' t5' t6' => ?_) n 0 x.zs (by omega) rfl hlx (But.of_ext ⟨Nat.le_refl _, fun _ _ => rfl⟩) (eC2.get hY) ?_ ?_ ?_ ?_ ?_
        · intro z hz
          have := hsl.blk_lt hz
          omega
        · have ox : ∀ z, z < A3.n + 1 → z ≠ Y → A'.get z = C2.get z := fun z hz hzn => hb.2 z (by omega) hzn
          have x10 : A'.get A3.n = some (.cells [.int .i64 x.w, .int .i64 x.h, .int .i64 x.s, .slice (some ⟨Y, 0, some 2⟩) x.m c] false) := by rw [ox _ (by omega) (by omega), hC2, get_push_new]
          have x4 : A'.get (A.n + 1) = some zeroG := by rw [ox _ (by omega) (by omega)]; exact eB3.get b2
          simp (disch := as_aux_lemma => first | omega | simp only [hDs] <;> omega | simp [isCell]) [hRs, takeMarks, resA, resAll, resOne, Value.cells, t4', t10', x10, x4, storeB_cells, setRange_all, get_set_same x4]
          have hA2n := hb.1
          refine hV _ _ ⟨by simp; omega, fun z hz => by rw [get_set_ne (by omega) (by omega), ox z (by omega) (by omega), e03.2 z hz]⟩ ?_
          rw [meaF, if_pos (show x.E = 0 from hE1), if_pos h4096, if_pos hr, hr']
          have hYn' := Hp.lt_of_get hA'
          refine GAt.tuple (x := { x with zs := cur }) ⟨_, rfl, ⟨by simp [hl'], .inr ⟨Y, c, false, rfl, ?_⟩⟩⟩
          rw [get_set_ne (by omega) (by omega)]
          exact hA'
        · have x4 : A'.get (A.n + 1) = some zeroG := by rw [hb.2 _ (by omega) (by omega)]; exact eB3.get b2
          simp (disch := as_aux_lemma => first | omega | simp only [hDs] <;> omega | simp [isCell]) [hRs, takeMarks, resA, resAll, resOne, Value.cells, t4', t5', t6', x4]
          have hA2n := hb.1
          refine hV _ _ ⟨by omega, fun z hz => by rw [hb.2 z (by omega) (by omega), e03.2 z hz]⟩ ?_
          rw [meaF, if_pos (show x.E = 0 from hE1), if_pos h4096, if_pos hr, hr']
          exact GAt.zero.tuple
        all_goals simp [t4]
      · have x4 := (e1.trans e2).get b2
        simp (disch := as_aux_lemma => first | omega | simp only [hDs] <;> omega | simp [isCell]) [hRs, takeMarks, resA, resAll, resOne, Value.cells, t4, t5, t6, x4]
        have := hV A2 (.tuple ⟨[gridV 0 0 0 (.slice none 0 0), .int .i64 0, .int .i64 (sndE x.m ls n 0)]⟩) (eB.trans (e1.trans e2)) (by rw [meaF, if_pos (show x.E = 0 from hE1), if_pos h4096, if_neg hr]; exact GAt.zero.tuple)
        exact this
      all_goals simp
    · have hb := fin A1 9 e1 (by rw [meaF, if_pos (show x.E = 0 from hE1), if_neg h4096])
      simp (disch := as_aux_lemma => first | omega | simp only [hDs] <;> omega | simp [isCell]) [hRs, takeMarks, resA, resAll, resOne, Value.cells, hE1, hl, show (4096 : Int) < n by omega, e1.get b2, fillA, storeB_cells, setRange_all, get_set_same (e1.get b2)]
      exact hb
  · have hb := fin A1 x.E e1 (by rw [meaF, if_neg (show ¬ x.E = 0 from hE1)])
    simp (disch := as_aux_lemma => first | omega | simp only [hDs] <;> omega | simp [isCell]) [hRs, takeMarks, resA, resAll, resOne, Value.cells, hE1, e1.get b2, fillA, storeB_cells, setRange_all, get_set_same (e1.get b2)]
    exact hb
end
end Go.Ab.Grid
set_option maxRecDepth 100000
namespace Go.Ab.Grid
open Go Go.Ab
section
variable {g : Nat} {rd : Option Nat} {T : List Value} {D : List Nat} {A : Hp} {Q : Ex → St → Prop} {V : Value → Hp → Prop}
end
end Go.Ab.Grid
set_option maxRecDepth 100000
namespace Go.Ab.Grid
open Go Go.Ab
section
variable {g : Nat} {rd : Option Nat} {T : List Value} {D : List Nat} {A : Hp} {Q : Ex → St → Prop} {V : Value → Hp → Prop}
end
end Go.Ab.Grid
set_option maxRecDepth 100000
namespace Go.Ab.Grid
open Go Go.Ab
structure Land where
  wide : Int
  high : Int
  nl : Nat
  low : List Int
  nm : Nat
  more : List Int
def Land.lo (L : Land) (i : Nat) : Int := if 0 < L.nl then gi L.low (i % L.nl) else 0
def Land.hi (L : Land) (i : Nat) : Int := L.lo i + if 0 < L.nm then gi L.more (i % L.nm) else 0
def Land.w (L : Land) : Int := 1 + L.wide.tmod 5
def Land.h (L : Land) : Int := 1 + L.high.tmod 5
def Land.n (L : Land) : Nat := (L.w * L.h).toNat
def Land.zs (L : Land) : Nat → List Int
  | 0 => []
  | i + 1 => L.zs i ++ [L.lo i, L.hi i]
def Land.G (L : Land) : G := ⟨L.w, L.h, 100, L.n, L.zs L.n⟩
structure Land.Ok (L : Land) : Prop where
  wide : 0 ≤ L.wide ∧ L.wide ≤ 255
  high : 0 ≤ L.high ∧ L.high ≤ 255
  low : ∀ i, -32768 ≤ gi L.low i ∧ gi L.low i ≤ 32767
  more : ∀ i, 0 ≤ gi L.more i ∧ gi L.more i ≤ 255
  nl : L.low.length = L.nl ∧ L.nl ≤ 9223372036854775807
  nm : L.more.length = L.nm ∧ L.nm ≤ 9223372036854775807
def Land.At (L : Land) (A : Hp) (sl sm : Value) : Prop := RdS A 1 L.nl (kints .i16 L.low) sl ∧ RdS A 1 L.nm (kints .u8 L.more) sm
def Land.V (L : Land) (sl sm : Value) : Value := .agg ⟨[.int .u8 L.wide, .int .u8 L.high, sl, sm]⟩
theorem Land.zs_len {L : Land} : ∀ {i : Nat}, (L.zs i).length = i * 2
  | 0 => rfl
  | i + 1 => by rw [Land.zs, List.length_append, Land.zs_len]; simp; omega
theorem Land.Ok.w {L : Land} (h : L.Ok) : 1 ≤ L.w ∧ L.w ≤ 5 := by
  have h1 := Int.tmod_nonneg 5 h.wide.1
  have h2 := Int.tmod_lt_of_pos L.wide (show (0 : Int) < 5 by decide)
  unfold Land.w; omega
theorem Land.Ok.h {L : Land} (h : L.Ok) : 1 ≤ L.h ∧ L.h ≤ 5 := by
  have h1 := Int.tmod_nonneg 5 h.high.1
  have h2 := Int.tmod_lt_of_pos L.high (show (0 : Int) < 5 by decide)
  unfold Land.h; omega
theorem Land.Ok.n {L : Land} (h : L.Ok) : (L.n : Int) = L.w * L.h ∧ 1 ≤ L.n ∧ L.n ≤ 25 := by
  have a := Int.mul_le_mul h.w.1 h.h.1 (by decide) (by have := h.w; omega)
  have b := Int.mul_le_mul h.w.2 h.h.2 (by have := h.h; omega) (by decide)
  unfold Land.n; omega
section
variable {g : Nat} {rd : Option Nat} {T : List Value} {D : List Nat} {A : Hp} {Q : Ex → St → Prop} {V : Value → Hp → Prop}
theorem loop310 {A0 : Hp} {L : Land} {sl sm : Value} {XL X3 N : Nat} (hO : L.Ok) (hat : L.At A0 sl sm) (hXL : A0.get XL = some (.cells [.int .u8 L.wide, .int .u8 L.high, sl, sm] false)) (hN : A0.n = N) (hX3 : X3 < N) (hg3 : g ≤ X3) (hg : g ≤ N) (hne : XL ≠ X3) (hsl3 : ∀ z, blkOf sl = some z → z ≠ X3) (hsm3 : ∀ z, blkOf sm = some z → z ≠ X3)
    (hQ : ∀ T' A' sv, But X3 A0 A' → A'.get X3 = some (.cells [.int .i64 L.w, .int .i64 L.h, .int .i64 100, sv] false) → AccS N A' 2 (ints (L.zs L.n)) sv → tget T' 2 = tget T 2 → tget T' 3 = .pointer (some ⟨X3, 0, none⟩) → Q (.exit 0) ⟨T', D, A'⟩) :
    ∀ (k i : Nat) {T1 : List Value} {A : Hp} (sv : Value), i + k = L.n → But X3 A0 A → A.get X3 = some (.cells [.int .i64 L.w, .int .i64 L.h, .int .i64 100, sv] false) → AccS N A 2 (ints (L.zs i)) sv → tget T1 2 = tget T 2 →
      tget T1 1 = .pointer (some ⟨XL, 0, none⟩) → tget T1 3 = .pointer (some ⟨X3, 0, none⟩) → tget T1 21 = .int .i64 L.n → tget T1 22 = .int .i64 i → W AP KL g rd (.loop body310) ⟨T1, D, A⟩ Q := by
  intro k
  have hnb := hO.n
  have hXLn := Hp.lt_of_get hXL
  induction k with
  | zero =>
    intro i T1 A sv hi hb h3 hacc k2 t1 t3 t21 t22
    have : i = L.n := by omega
    subst this
    rw [W_loop]
    simp (disch := as_aux_lemma => first | omega | simp only [hDs] <;> omega | simp [isCell]) [hRs, takeMarks, resA, resAll, resOne, Value.cells, body310, t21, t22]
    exact hQ _ _ sv hb h3 hacc (by simp [k2]) (by simp [t3])
  | succ k ih =>
    intro i T1 A sv hi hb h3 hacc k2 t1 t3 t21 t22
    have e5 : wr .i64 ((i : Int) + 1) = ((i + 1 : Nat) : Int) := by rw [wrId (by omega) (by omega)]; simp
    have hAn := hb.1
    have aL : A.get XL = some (.cells [.int .u8 L.wide, .int .u8 L.high, sl, sm] false) := by rw [hb.2 _ hXLn hne]; exact hXL
    have hslA := hat.1.keepB (A' := A) fun z hz => hb.2 z (hat.1.blk_lt hz) (hsl3 z hz)
    have hsmA := hat.2.keepB (A' := A) fun z hz => hb.2 z (hat.2.blk_lt hz) (hsm3 z hz)
    have ll := hslA.len
    have lm := hsmA.len
    have olo : -32768 ≤ L.lo i ∧ L.lo i ≤ 32767 := by unfold Land.lo; split; exact hO.low _; omega
    obtain ⟨dd, hdd, hdd0⟩ : ∃ dd, dd = (if 0 < L.nm then gi L.more (i % L.nm) else 0) ∧ 0 ≤ dd ∧ dd ≤ 255 := ⟨_, rfl, by split; exact hO.more _; omega⟩
    have hhi : L.hi i = L.lo i + dd := by rw [Land.hi, hdd]
    have e6 : wr .i64 (L.lo i) = L.lo i := wrId (by omega) (by omega)
    have e7 : wr .i64 dd = dd := wrId (by omega) (by omega)
    have e8 : wr .i64 (L.lo i + dd) = L.lo i + dd := wrId (by omega) (by omega)
    obtain ⟨sv', A1, a1, a2, a3, a4⟩ := append_acc (g := g) (bytes := 16) (y := A.n + 1) (A := (A.push (.cells [.int .i64 (L.lo i), .int .i64 (L.lo i + dd)] false)).push (.cells [.int .i64 (L.lo i), .int .i64 (L.lo i + dd)] false)) (new := [.int .i64 (L.lo i), .int .i64 (L.lo i + dd)]) (ro := false) (n := i)
      (hacc.mono ((Ext'.push A _).trans (Ext'.push _ _)).2) (by omega) (by simp; omega) (get_push_eq (by simp)) rfl (by decide) rfl (by simp [Land.zs_len]) (by unfold room; omega)
    rw [show ints (L.zs i) ++ [.int .i64 (L.lo i), .int .i64 (L.lo i + dd)] = ints (L.zs (i + 1)) by rw [Land.zs, ints_append, hhi]; rfl] at a2
    obtain ⟨ad, nn, cc, rfl⟩ : ∃ ad nn cc, sv' = .slice ad nn cc := by rcases a2 with ⟨rfl, _⟩ | ⟨_, _, rfl, _⟩ <;> exact ⟨_, _, _, rfl⟩
    have c3 : A1.get X3 = some (.cells [.int .i64 L.w, .int .i64 L.h, .int .i64 100, sv] false) := by rw [a3 _ (by omega), get_push_old (by simp; omega), get_push_old (by omega)]; exact h3
    have hfin : ∀ T2, tget T2 2 = tget T 2 → tget T2 1 = .pointer (some ⟨XL, 0, none⟩) → tget T2 3 = .pointer (some ⟨X3, 0, none⟩) → tget T2 21 = .int .i64 L.n → tget T2 22 = .int .i64 ((i + 1 : Nat) : Int) →
        W AP KL g rd (.loop body310) ⟨T2, D, A1.set X3 (some (.cells [.int .i64 L.w, .int .i64 L.h, .int .i64 100, .slice ad nn cc] false))⟩ Q := fun T2 j2 j1 j3 j21 j22 => by
      have o1 : ∀ z, z < A1.n → z ≠ X3 → (A1.set X3 (some (.cells [.int .i64 L.w, .int .i64 L.h, .int .i64 100, .slice ad nn cc] false))).get z = A1.get z := fun z hz hzn => get_set_ne (Hp.lt_of_get c3) hzn
      refine ih (i + 1) (.slice ad nn cc) (by omega) ⟨by simp [a4]; omega, fun z hz hzn => ?_⟩ (get_set_same c3) (a2.keepB fun b hbb => o1 b (a2.blk_ge hbb).2 (by have := (a2.blk_ge hbb).1; omega)) j2 j1 j3 j21 j22
      rw [o1 z (by rw [a4]; simp; omega) hzn, a3 z (by omega), get_push_old (by simp; omega), get_push_old (by omega), hb.2 z hz hzn]
    have z1 : zeros 1 [Value.int .i64 0, .int .i64 0] = [.int .i64 0, .int .i64 0] := rfl
    rw [W_loop]
    by_cases hl : 0 < L.nl
    · have em : ((i : Int).tmod L.nl) = ((i % L.nl : Nat) : Int) := by rw [Int.tmod_eq_emod_of_nonneg (by omega)]; simp
      have hml : i % L.nl < L.nl := Nat.mod_lt _ hl
      have en : ((i : Int) % (L.nl : Int)).toNat = i % L.nl := by rw [← Int.natCast_emod]; exact Int.toNat_natCast _
      obtain ⟨xb, xc, xr, rfl, hxb⟩ := hslA.at hl
      have hxbn := Hp.lt_of_get hxb
      have elo : L.lo i = gi L.low (i % L.nl) := if_pos hl
      rw [elo] at e6 e8 a1
      by_cases hm : 0 < L.nm
      · have em2 : ((i : Int).tmod L.nm) = ((i % L.nm : Nat) : Int) := by rw [Int.tmod_eq_emod_of_nonneg (by omega)]; simp
        have hmm : i % L.nm < L.nm := Nat.mod_lt _ hm
        have en2 : ((i : Int) % (L.nm : Int)).toNat = i % L.nm := by rw [← Int.natCast_emod]; exact Int.toNat_natCast _
        obtain ⟨yb, yc, yr, rfl, hxm⟩ := hsmA.at hm
        have hxmn := Hp.lt_of_get hxm
        rw [if_pos hm] at hdd
        subst hdd
        simp (disch := as_aux_lemma => first | omega | simp only [hDs] <;> omega | simp [isCell]) [hRs, takeMarks, resA, resAll, resOne, Value.cells, body310, t1, t3, t21, t22, show ((i : Int) < L.n) by omega, fillA, storeB_cells, setRange_all, set_push_eq, aL, ll, lm, h3, idxSA_ok, setRange, slitA, z1, a1, c3, toIntA, e5, hl, binA_rem (show ((L.nl : Nat) : Int) ≠ 0 by omega), em, en, hml, hxb, kints_get (k := .i16) (show i % L.nl < L.low.length by rw [hO.nl.1]; exact hml), e6, hm, binA_rem (show ((L.nm : Nat) : Int) ≠ 0 by omega), em2, en2, hmm, hxm, kints_get (k := .u8) (show i % L.nm < L.more.length by rw [hO.nm.1]; exact hmm), e7, e8]
        exact hfin _ (by simp [k2]) (by simp [t1]) (by simp [t3]) (by simp [t21]) (by simp)
      · rw [if_neg hm] at hdd
        subst hdd
        try simp only [Int.add_zero] at a1
        simp (disch := as_aux_lemma => first | omega | simp only [hDs] <;> omega | simp [isCell]) [hRs, takeMarks, resA, resAll, resOne, Value.cells, body310, t1, t3, t21, t22, show ((i : Int) < L.n) by omega, fillA, storeB_cells, setRange_all, set_push_eq, aL, ll, lm, h3, idxSA_ok, setRange, slitA, z1, a1, c3, toIntA, e5, hl, binA_rem (show ((L.nl : Nat) : Int) ≠ 0 by omega), em, en, hml, hxb, kints_get (k := .i16) (show i % L.nl < L.low.length by rw [hO.nl.1]; exact hml), e6, hm, show L.nm = 0 by omega]
        exact hfin _ (by simp [k2]) (by simp [t1]) (by simp [t3]) (by simp [t21]) (by simp)
    · have elo : L.lo i = 0 := if_neg hl
      rw [elo] at e6 e8 a1
      simp only [Int.zero_add] at e8 a1
      by_cases hm : 0 < L.nm
      · have em2 : ((i : Int).tmod L.nm) = ((i % L.nm : Nat) : Int) := by rw [Int.tmod_eq_emod_of_nonneg (by omega)]; simp
        have hmm : i % L.nm < L.nm := Nat.mod_lt _ hm
        have en2 : ((i : Int) % (L.nm : Int)).toNat = i % L.nm := by rw [← Int.natCast_emod]; exact Int.toNat_natCast _
        obtain ⟨yb, yc, yr, rfl, hxm⟩ := hsmA.at hm
        have hxmn := Hp.lt_of_get hxm
        rw [if_pos hm] at hdd
        subst hdd
        simp (disch := as_aux_lemma => first | omega | simp only [hDs] <;> omega | simp [isCell]) [hRs, takeMarks, resA, resAll, resOne, Value.cells, body310, t1, t3, t21, t22, show ((i : Int) < L.n) by omega, fillA, storeB_cells, setRange_all, set_push_eq, aL, ll, lm, h3, idxSA_ok, setRange, slitA, z1, a1, c3, toIntA, e5, hl, show L.nl = 0 by omega, hm, binA_rem (show ((L.nm : Nat) : Int) ≠ 0 by omega), em2, en2, hmm, hxm, kints_get (k := .u8) (show i % L.nm < L.more.length by rw [hO.nm.1]; exact hmm), e7, e8]
        exact hfin _ (by simp [k2]) (by simp [t1]) (by simp [t3]) (by simp [t21]) (by simp)
      · rw [if_neg hm] at hdd
        subst hdd
        try simp only [Int.add_zero] at a1
        simp (disch := as_aux_lemma => first | omega | simp only [hDs] <;> omega | simp [isCell]) [hRs, takeMarks, resA, resAll, resOne, Value.cells, body310, t1, t3, t21, t22, show ((i : Int) < L.n) by omega, fillA, storeB_cells, setRange_all, set_push_eq, aL, ll, lm, h3, idxSA_ok, setRange, slitA, z1, a1, c3, toIntA, e5, hl, show L.nl = 0 by omega, hm, show L.nm = 0 by omega]
        exact hfin _ (by simp [k2]) (by simp [t1]) (by simp [t3]) (by simp [t21]) (by simp)
theorem w310 {L : Land} {sl sm : Value} (hO : L.Ok) (hat : L.At A sl sm) (hg : g ≤ A.n) (hV : ∀ A' v, Ext' A A' → GAt A' L.G v → V v A') : WF AP KL g 310 [L.V sl sm] A V := by
  obtain ⟨pl, cl, rfl⟩ := hat.1.isSlice'
  obtain ⟨pm, cm, rfl⟩ := hat.2.isSlice'
  have hnb := hO.n
  have hw := hO.w
  have hh := hO.h
  rw [WF_body (show KL 310 = none from rfl) (show AP 310 = some F310 from rfl)]
  have ew : wr .i64 L.wide = L.wide := wrId (by have := hO.wide; omega) (by have := hO.wide; omega)
  have eh : wr .i64 L.high = L.high := wrId (by have := hO.high; omega) (by have := hO.high; omega)
  have e1 : wr .i64 (1 + L.wide.tmod 5) = L.w := by show _ = 1 + L.wide.tmod 5; exact wrId (by have := hw; unfold Land.w at this; omega) (by have := hw; unfold Land.w at this; omega)
  have e2 : wr .i64 (1 + L.high.tmod 5) = L.h := by show _ = 1 + L.high.tmod 5; exact wrId (by have := hh; unfold Land.h at this; omega) (by have := hh; unfold Land.h at this; omega)
  have e3 : wr .i64 (L.w * L.h) = (L.n : Int) := by rw [← hnb.1]; exact wrId (by omega) (by omega)
  obtain ⟨B, hB⟩ : ∃ B, B = ((A.push (.cells [.int .u8 L.wide, .int .u8 L.high, .slice pl L.nl cl, .slice pm L.nm cm] false)).push zeroG).push (.cells [.int .i64 L.w, .int .i64 L.h, .int .i64 100, .slice none 0 0] false) := ⟨_, rfl⟩
  have eB : Ext' A B := by rw [hB]; exact ((Ext'.push _ _).trans (Ext'.push _ _)).trans (Ext'.push _ _)
  have nB : B.n = A.n + 3 := by rw [hB]; rfl
  have b0 : B.get A.n = some (.cells [.int .u8 L.wide, .int .u8 L.high, .slice pl L.nl cl, .slice pm L.nm cm] false) := by rw [hB, get_push_old (by simp; omega), get_push_old (by simp), get_push_eq (by omega)]
  have b1 : B.get (A.n + 1) = some zeroG := by rw [hB, get_push_old (by simp), get_push_eq (by simp)]
  have b2 : B.get (A.n + 2) = some (.cells [.int .i64 L.w, .int .i64 L.h, .int .i64 100, .slice none 0 0] false) := by rw [hB, get_push_eq (by simp)]
  unfold zeroG at hB
  simp (disch := as_aux_lemma => first | omega | simp only [hDs] <;> omega | simp [isCell]) [hRs, takeMarks, resA, resAll, resOne, Value.cells, F310, Land.V, toIntA, ew, eh, binA_rem (show (5 : Int) ≠ 0 by decide), e1, e2, e3, fillA, setRange, storeB_cells, set_push_eq, setRange_all, ← hB, b2]
  refine loop310 (A0 := B) (L := L) (XL := A.n) (X3 := A.n + 2) (N := B.n) hO ⟨eB.rdS hat.1, eB.rdS hat.2⟩ b0 rfl (by omega) (by omega) (by omega) (by omega) (fun z hz => by have := hat.1.blk_lt hz; omega) (fun z hz => by have := hat.2.blk_lt hz; omega)
    (fun T' A' sv hb h3 hacc k2 t3 => ?_) L.n 0 (.slice none 0 0) (by omega) (But.of_ext ⟨Nat.le_refl _, fun _ _ => rfl⟩) b2 AccS.nil rfl ?_ ?_ ?_ ?_
  · simp at k2
    have hn := hb.1
    have c1 : A'.get (A.n + 1) = some zeroG := by rw [hb.2 _ (by omega) (by omega)]; exact b1
    obtain ⟨ad, nn, cc, rfl⟩ : ∃ ad nn cc, sv = .slice ad nn cc := by rcases hacc with ⟨rfl, _⟩ | ⟨_, _, rfl, _⟩ <;> exact ⟨_, _, _, rfl⟩
    simp (disch := as_aux_lemma => first | omega | simp only [hDs] <;> omega | simp [isCell]) [hRs, takeMarks, resA, resAll, resOne, Value.cells, k2, t3, h3, c1, storeB_cells, setRange_all, get_set_same c1]
    have o1 : ∀ (b : Option ABlk) z, z ≠ A.n + 1 → (A'.set (A.n + 1) b).get z = A'.get z := fun b z hz => get_set_ne (by omega) hz
    refine hV _ _ ⟨by simp; omega, fun z hz => by rw [o1 _ z (by omega), hb.2 z (by omega) (by omega), eB.2 z hz]⟩ ⟨_, rfl, ?_⟩
    have hacc' := hacc.keepB (A' := A'.set (A.n + 1) (some (.cells [.int .i64 L.w, .int .i64 L.h, .int .i64 100, .slice ad nn cc] false))) fun b hbb => o1 _ b (by have := (hacc.blk_ge hbb).1; omega)
    obtain ⟨q, hq⟩ := hacc'.rdS
    have : q = L.n := by have := hq.1; simp [Land.zs_len] at this; omega
    subst this
    exact hq
  · simp
  · simp
  · simp
  · simp
end
end Go.Ab.Grid
set_option maxRecDepth 100000
namespace Go.Ab.Grid
open Go Go.Ab
theorem cons_fresh {g k bytes m y : Nat} {A : Hp} {cs new : List Value} {src : Value} (h : RdS A k m cs src) (hy : A.get y = some (.cells new false)) (hnew : new.length = k) (hcell : cs.all isCell = true) (hk : 0 < k) (hg : g ≤ y)
    (hr : (m + 1) * bytes ≤ room ∧ m + 1 ≤ room) : ∃ Y c A', appendA g A k bytes (.slice (some ⟨y, 0, some k⟩) 1 1) src = some (.slice (some ⟨Y, 0, some k⟩) (m + 1) c, A') ∧ A.n ≤ A'.n ∧ (∀ z, z < A.n → z ≠ y → A'.get z = A.get z) ∧ A'.get Y = some (.cells (new ++ cs) false) ∧ y ≤ Y := by
  have hc := h.cellsAt
  obtain ⟨p, c, rfl⟩ := h.isSlice'
  have hyn := Hp.lt_of_get hy
  unfold appendA
  simp only [hc]
  rw [if_pos ⟨hcell, hk⟩]
  by_cases hm : m = 0
  · subst hm
    have : cs = [] := List.eq_nil_of_length_eq_zero (by have := h.1; simpa using this)
    subst this
    rw [if_pos rfl]
    exact ⟨y, 1, A, rfl, Nat.le_refl _, fun _ _ _ => rfl, by simpa using hy, Nat.le_refl _⟩
  · rw [if_neg hm]
    simp only [hy]
    rw [if_pos ⟨hg, by have := hr.1; rw [Nat.add_comm] at this; exact this, by omega, trivial⟩, if_pos (by simp [hnew])]
    refine ⟨A.n, m + 1, (A.set y none).push (.cells (new ++ cs) false), ?_, by simp, fun z hz hzy => ?_, ?_, by omega⟩
    · simp [Nat.add_comm]
    · rw [get_push_old (by simpa using hz), get_set_ne hyn hzy]
    · exact get_push_eq (by simp)
structure Ord where
  n : Nat
  cs : List Int
  nh : Nat
  hs : List Int
  ne : Nat
  es : List Int
  m : Nat
def Ord.c (o : Ord) (i : Nat) : Int := (gi o.cs i).tmod o.m
def Ord.h (o : Ord) (i : Nat) : Int := gi o.hs (i % o.nh)
def Ord.e (o : Ord) (i : Nat) : Int := gi o.es (i % o.ne)
def Ord.ls (o : Ord) : Nat → List Int
  | 0 => []
  | i + 1 => o.ls i ++ [o.c i, o.h i, o.e i]
def Ord.rv (o : Ord) : Nat → List Int
  | 0 => []
  | i + 1 => [o.c i, o.h i, o.e i] ++ o.rv i
def wset (cur : List Int) (c : Nat) (lo hi : Int) : List Int := (cur.set (c * 2) (max (gi cur (c * 2)) lo)).set (c * 2 + 1) (min (gi cur (c * 2 + 1)) hi)
def Ord.want (o : Ord) (zs : List Int) : Nat → List Int
  | 0 => zs
  | i + 1 => wset (o.want zs i) (o.c i).toNat (o.h i - o.e i) (o.h i + o.e i)
theorem Ord.ls_len {o : Ord} : ∀ {i : Nat}, (o.ls i).length = i * 3
  | 0 => rfl
  | i + 1 => by rw [Ord.ls, List.length_append, Ord.ls_len]; simp; omega
theorem Ord.rv_len {o : Ord} : ∀ {i : Nat}, (o.rv i).length = i * 3
  | 0 => rfl
  | i + 1 => by rw [Ord.rv, List.length_append, Ord.rv_len]; simp; omega
theorem Ord.want_len {o : Ord} {zs : List Int} : ∀ {i : Nat}, (o.want zs i).length = zs.length
  | 0 => rfl
  | i + 1 => by rw [Ord.want, wset]; simp [Ord.want_len]
structure Ord.Ok (o : Ord) : Prop where
  n : o.cs.length = o.n ∧ o.n ≤ 12
  nh : o.hs.length = o.nh ∧ 0 < o.nh ∧ o.nh ≤ 9223372036854775807
  ne : o.es.length = o.ne ∧ 0 < o.ne ∧ o.ne ≤ 9223372036854775807
  m : 1 ≤ o.m ∧ o.m ≤ 25
  c : ∀ i, 0 ≤ gi o.cs i ∧ gi o.cs i ≤ 255
  h : ∀ i, -32768 ≤ gi o.hs i ∧ gi o.hs i ≤ 32767
  e : ∀ i, 0 ≤ gi o.es i ∧ gi o.es i ≤ 255
theorem Ord.Ok.cr {o : Ord} (h : o.Ok) (i : Nat) : 0 ≤ o.c i ∧ o.c i < o.m := ⟨Int.tmod_nonneg _ (h.c i).1, Int.tmod_lt_of_pos _ (by have := h.m; omega)⟩
theorem take_set {W : List Int} {d : Nat} {v : Int} (h : d < W.length) : List.take d (ints W) ++ .int .i64 v :: List.drop (d + 1) (ints W) = ints (W.set d v) := by
  rw [← setRange_intsI h]; simp [setRange]
section
variable {g : Nat} {rd : Option Nat} {T : List Value} {D : List Nat} {A : Hp} {Q : Ex → St → Prop} {V : Value → Hp → Prop}
structure OrdI (o : Ord) (zs : List Int) (A0 : Hp) (Y : Nat) (i : Nat) (s10 s11 : Value) (A : Hp) : Prop where
  hb : But Y A0 A
  hY : A.get Y = some (.cells (ints (o.want zs i)) false)
  a10 : AccS A0.n A 3 (ints (o.ls i)) s10
  a11 : RdS A 3 i (ints (o.rv i)) s11
  b11 : ∀ z, blkOf s11 = some z → A0.n ≤ z ∧ blkOf s10 ≠ some z
theorem loop286a {A0 : Hp} {o : Ord} {zs : List Int} {sc sh se : Value} {XG Y c : Nat} {w h s : Int} {sg : Value} (hO : o.Ok) (hzs : zs.length = o.m * 2) (hc : RdS A0 1 o.n (kints .u8 o.cs) sc) (hh : RdS A0 1 o.nh (kints .i16 o.hs) sh) (he : RdS A0 1 o.ne (kints .u8 o.es) se)
    (hG : A0.get XG = some (.cells [.int .i64 w, .int .i64 h, .int .i64 s, sg] false)) (hlg : lenV sg = some (.int .i64 o.m)) (hYn : Y < A0.n) (hgY : g ≤ Y) (hYc : ∀ z, blkOf sc = some z → z ≠ Y) (hYh : ∀ z, blkOf sh = some z → z ≠ Y) (hYe : ∀ z, blkOf se = some z → z ≠ Y) (hXG : XG ≠ Y)
    (hQ : ∀ T' A' s10 s11, OrdI o zs A0 Y o.n s10 s11 A' → tget T' 9 = .pointer (some ⟨XG, 0, none⟩) → tget T' 10 = s10 → tget T' 11 = s11 → tget T' 12 = .slice (some ⟨Y, 0, some 2⟩) o.m c → Q (.exit 0) ⟨T', D, A'⟩) :
    ∀ (k i : Nat) {T : List Value} {A : Hp} (s10 s11 : Value), i + k = o.n → OrdI o zs A0 Y i s10 s11 A → tget T 2 = sh → tget T 3 = se → tget T 9 = .pointer (some ⟨XG, 0, none⟩) → tget T 10 = s10 → tget T 11 = s11 → tget T 12 = .slice (some ⟨Y, 0, some 2⟩) o.m c →
      tget T 46 = sc → tget T 47 = .int .i64 o.n → tget T 48 = .int .i64 i → W AP KL g rd (.loop body286a) ⟨T, D, A⟩ Q := by
  intro k
  have hGn := Hp.lt_of_get hG
  have hn12 := hO.n.2
  have hm1 := hO.m
  induction k with
  | zero =>
    intro i T A s10 s11 hi hI t2 t3 t9 t10 t11 t12 t46 t47 t48
    have : i = o.n := by omega
    subst this
    rw [W_loop]
    simp (disch := as_aux_lemma => first | omega | simp only [hDs] <;> omega | simp [isCell]) [hRs, takeMarks, resA, resAll, resOne, Value.cells, body286a, t47, t48]
    exact hQ _ _ s10 s11 hI (by simp [t9]) (by simp [t10]) (by simp [t11]) (by simp [t12])
  | succ k ih =>
    intro i T A s10 s11 hi hI t2 t3 t9 t10 t11 t12 t46 t47 t48
    obtain ⟨hb, hY, a10, a11, b11⟩ := hI
    have e5 : wr .i64 ((i : Int) + 1) = ((i + 1 : Nat) : Int) := by rw [wrId (by omega) (by omega)]; simp
    have hAn := hb.1
    have hYA := Hp.lt_of_get hY
    have hcA := hc.keepB (A' := A) fun z hz => hb.2 z (hc.blk_lt hz) (hYc z hz)
    have hhA := hh.keepB (A' := A) fun z hz => hb.2 z (hh.blk_lt hz) (hYh z hz)
    have heA := he.keepB (A' := A) fun z hz => hb.2 z (he.blk_lt hz) (hYe z hz)
    obtain ⟨cb, cc, cr, rfl, hcb⟩ := hcA.at (show i < o.n by omega)
    obtain ⟨hb', hc', hr', rfl, hhb⟩ := hhA.at hO.nh.2.1
    obtain ⟨eb, ec, er, rfl, heb⟩ := heA.at hO.ne.2.1
    have hcbn := Hp.lt_of_get hcb
    have hhbn := Hp.lt_of_get hhb
    have hebn := Hp.lt_of_get heb
    have aG : A.get XG = some (.cells [.int .i64 w, .int .i64 h, .int .i64 s, sg] false) := by rw [hb.2 _ hGn hXG]; exact hG
    have emh : ((i : Int).tmod o.nh) = ((i % o.nh : Nat) : Int) := by rw [Int.tmod_eq_emod_of_nonneg (by omega)]; simp
    have eme : ((i : Int).tmod o.ne) = ((i % o.ne : Nat) : Int) := by rw [Int.tmod_eq_emod_of_nonneg (by omega)]; simp
    have enh : ((i : Int) % (o.nh : Int)).toNat = i % o.nh := by rw [← Int.natCast_emod]; exact Int.toNat_natCast _
    have ene : ((i : Int) % (o.ne : Int)).toNat = i % o.ne := by rw [← Int.natCast_emod]; exact Int.toNat_natCast _
    have hmh : i % o.nh < o.nh := Nat.mod_lt _ hO.nh.2.1
    have hme : i % o.ne < o.ne := Nat.mod_lt _ hO.ne.2.1
    obtain ⟨cN, hcN⟩ : ∃ cN : Nat, o.c i = (cN : Int) := ⟨(o.c i).toNat, by have := hO.cr i; omega⟩
    have hcm : cN < o.m := by have := hO.cr i; omega
    have rc := hO.c i
    have rh : -32768 ≤ o.h i ∧ o.h i ≤ 32767 := hO.h _
    have re : 0 ≤ o.e i ∧ o.e i ≤ 255 := hO.e _
    have f1 : wr .i64 (gi o.cs i) = gi o.cs i := wrId (by omega) (by omega)
    have f2 : wr .i64 (gi o.hs (i % o.nh)) = o.h i := wrId (by have := rh; unfold Ord.h at this; omega) (by have := rh; unfold Ord.h at this; omega)
    have f3 : wr .i64 (gi o.es (i % o.ne)) = o.e i := wrId (by have := re; unfold Ord.e at this; omega) (by have := re; unfold Ord.e at this; omega)
    have f4 : (gi o.cs i).tmod o.m = (cN : Int) := hcN
    have f5 : wr .i64 (o.h i - o.e i) = o.h i - o.e i := wrId (by omega) (by omega)
    have f6 : wr .i64 (o.h i + o.e i) = o.h i + o.e i := wrId (by omega) (by omega)
    have hne10 : ∀ z, blkOf s10 = some z → A0.n ≤ z ∧ z < A.n := fun z hz => a10.blk_ge hz
    obtain ⟨s10', A1, p1, p2, p3, p4, p5⟩ := add_keep (g := g) (bytes := 24) (n := i) (A := A.push (.cells [.int .i64 cN, .int .i64 (o.h i), .int .i64 (o.e i)] false)) (new := [.int .i64 cN, .int .i64 (o.h i), .int .i64 (o.e i)]) (ro := false) (a10.mono (Ext'.push A _).2) (by omega) (by simp; omega) rfl (by decide) rfl (by simp [Ord.ls_len]) (by unfold room; omega)
    have p1' : appendA g ((A.push (.cells [.int .i64 cN, .int .i64 (o.h i), .int .i64 (o.e i)] false)).push (.cells [.int .i64 cN, .int .i64 (o.h i), .int .i64 (o.e i)] false)) 3 24 s10 (.slice (some ⟨A.n + 1, 0, some 3⟩) 1 1) = some (s10', A1) := p1
    simp only [Hp.n_push] at p4 p5
    have n15 : A1.get A.n = some (.cells [.int .i64 cN, .int .i64 (o.h i), .int .i64 (o.e i)] false) := by rw [p3 _ (by simp) (fun h => by have := (hne10 _ h).2; omega)]; exact get_push_new
    have keep1 : ∀ z, z < A.n → blkOf s10 ≠ some z → A1.get z = A.get z := fun z hz h => by rw [p3 z (by simp; omega) h, get_push_old hz]
    have r11 : RdS (A1.push (.cells [.int .i64 cN, .int .i64 (o.h i), .int .i64 (o.e i)] false)) 3 i (ints (o.rv i)) s11 := (a11.keepB (A' := A1) fun z hz => keep1 z (a11.blk_lt hz) (b11 z hz).2).mono (Ext'.push _ _).2
    obtain ⟨Y2, c2, A2, q1, q2, q3, q4, q5⟩ := cons_fresh (g := g) (bytes := 24) (y := A1.n) (new := [.int .i64 cN, .int .i64 (o.h i), .int .i64 (o.e i)]) r11 get_push_new rfl (ints_isCell _) (by decide) (by omega) (by unfold room; omega)
    simp only [Hp.n_push] at q2
    have keep2 : ∀ z, z < A1.n → A2.get z = A1.get z := fun z hz => by rw [q3 z (by simp; omega) (by omega), get_push_old hz]
    have m15 : A2.get A.n = some (.cells [.int .i64 cN, .int .i64 (o.h i), .int .i64 (o.e i)] false) := by rw [keep2 _ (by omega)]; exact n15
    have mY : A2.get Y = some (.cells (ints (o.want zs i)) false) := by rw [keep2 _ (by omega), keep1 _ (by omega) (fun h => by have := (hne10 _ h).1; omega)]; exact hY
    have hwl : (o.want zs i).length = o.m * 2 := by rw [Ord.want_len, hzs]
    have hl1 : ((o.want zs i).set (cN * 2) (max (gi (o.want zs i) (cN * 2)) (o.h i - o.e i))).length = (o.want zs i).length := by simp
    have hS1 : ∀ b, (A2.set Y (some b)).get Y = some b := fun b => get_set_same mY
    have fin : ∀ T2, tget T2 2 = tget T 2 → tget T2 3 = tget T 3 → tget T2 9 = tget T 9 → tget T2 10 = s10' → tget T2 11 = .slice (some ⟨Y2, 0, some 3⟩) (i + 1) c2 → tget T2 12 = tget T 12 → tget T2 46 = tget T 46 → tget T2 47 = tget T 47 → tget T2 48 = .int .i64 ((i + 1 : Nat) : Int) →
        ∀ b, W AP KL g rd (.loop body286a) ⟨T2, D, (A2.set Y (some b)).set Y (some (.cells (ints (((o.want zs i).set (cN * 2) (max (gi (o.want zs i) (cN * 2)) (o.h i - o.e i))).set (cN * 2 + 1) (min (gi (o.want zs i) (cN * 2 + 1)) (o.h i + o.e i)))) false))⟩ Q := fun T2 k2 k3 k9 k10 k11 k12 k46 k47 k48 b => by
      have oS : ∀ z, z < A2.n → z ≠ Y → ((A2.set Y (some b)).set Y (some (.cells (ints (((o.want zs i).set (cN * 2) (max (gi (o.want zs i) (cN * 2)) (o.h i - o.e i))).set (cN * 2 + 1) (min (gi (o.want zs i) (cN * 2 + 1)) (o.h i + o.e i)))) false))).get z = A2.get z := fun z hz hzn => by rw [get_set_ne (by simp; omega) hzn, get_set_ne (by omega) hzn]
      have nl : ints (o.ls i) ++ [.int .i64 cN, .int .i64 (o.h i), .int .i64 (o.e i)] = ints (o.ls (i + 1)) := by rw [Ord.ls, ints_append, hcN]; rfl
      have nr : [.int .i64 cN, .int .i64 (o.h i), .int .i64 (o.e i)] ++ ints (o.rv i) = ints (o.rv (i + 1)) := by rw [Ord.rv, ints_append, hcN]; rfl
      rw [nl] at p2
      rw [nr] at q4
      refine ih (i + 1) s10' (.slice (some ⟨Y2, 0, some 3⟩) (i + 1) c2) (by omega) ⟨⟨by simp; omega, fun z hz hzn => ?_⟩, ?_, ?_, ⟨by simp [Ord.rv_len], .inr ⟨Y2, c2, false, rfl, ?_⟩⟩, ?_⟩ (k2.trans t2) (k3.trans t3) (k9.trans t9) k10 k11 (k12.trans t12) (k46.trans t46) (k47.trans t47) k48
      · rw [oS z (by omega) hzn, keep2 z (by omega), keep1 z (by omega) (fun h => by have := (hne10 _ h).1; omega), hb.2 z hz hzn]
      · rw [get_set_same (hS1 b), Ord.want, wset, hcN]; rfl
      · exact p2.keepB fun b' hbb => by
          have h1 := p2.blk_ge hbb
          rw [oS b' (by omega) (by omega), keep2 b' h1.2]
      · rw [oS Y2 (Hp.lt_of_get q4) (by omega)]; exact q4
      · intro z hz
        have hz' : Y2 = z := by simpa [blkOf] using hz
        subst hz'
        refine ⟨by omega, fun h => ?_⟩
        have := (p2.blk_ge h).2
        omega
    obtain ⟨ad, nn, cc', rfl⟩ : ∃ ad nn cc', s10 = .slice ad nn cc' := by rcases a10 with ⟨rfl, _⟩ | ⟨_, _, rfl, _⟩ <;> exact ⟨_, _, _, rfl⟩
    rw [W_loop]
    rcases ad with _ | ⟨y, yo, ys⟩
    · simp (disch := as_aux_lemma => first | omega | simp only [hDs] <;> omega | simp [isCell]) [hRs, takeMarks, resA, resAll, resOne, Value.cells, body286a, t2, t3, t9, t10, t11, t12, t46, t47, t48, show ((i : Int) < o.n) by omega, show i < o.n by omega, idxSA_ok, hcb, hhb, heb, kints_get (k := .u8) (show i < o.cs.length by rw [hO.n.1]; omega), kints_get (k := .i16) (show i % o.nh < o.hs.length by rw [hO.nh.1]; exact hmh), kints_get (k := .u8) (show i % o.ne < o.es.length by rw [hO.ne.1]; exact hme), toIntA, f1, f2, f3, aG, hlg, binA_rem (show ((o.m : Nat) : Int) ≠ 0 by omega), binA_rem (show ((o.nh : Nat) : Int) ≠ 0 by have := hO.nh.2.1; omega), binA_rem (show ((o.ne : Nat) : Int) ≠ 0 by have := hO.ne.2.1; omega), emh, eme, enh, ene, hmh, hme, f4, fillA, setRange, storeB_cells, set_push_eq, setRange_all, slitA, show zeros 1 [Value.int .i64 0, .int .i64 0, .int .i64 0] = [.int .i64 0, .int .i64 0, .int .i64 0] from rfl, p1', n15, apartA, q1, m15, mY, hwl, hcm, ints_get, nilCheckA, f5, f6, take_set, hl1, List.length_set, hS1, show Y ≠ A.n by omega, e5]
      exact fin _ (by simp) (by simp) (by simp) (by simp) (by simp) (by simp) (by simp) (by simp) (by simp) _
    · have hya := (hne10 y rfl).2
      simp (disch := as_aux_lemma => first | omega | simp only [hDs] <;> omega | simp [isCell]) [hRs, takeMarks, resA, resAll, resOne, Value.cells, body286a, t2, t3, t9, t10, t11, t12, t46, t47, t48, show ((i : Int) < o.n) by omega, show i < o.n by omega, idxSA_ok, hcb, hhb, heb, kints_get (k := .u8) (show i < o.cs.length by rw [hO.n.1]; omega), kints_get (k := .i16) (show i % o.nh < o.hs.length by rw [hO.nh.1]; exact hmh), kints_get (k := .u8) (show i % o.ne < o.es.length by rw [hO.ne.1]; exact hme), toIntA, f1, f2, f3, aG, hlg, binA_rem (show ((o.m : Nat) : Int) ≠ 0 by omega), binA_rem (show ((o.nh : Nat) : Int) ≠ 0 by have := hO.nh.2.1; omega), binA_rem (show ((o.ne : Nat) : Int) ≠ 0 by have := hO.ne.2.1; omega), emh, eme, enh, ene, hmh, hme, f4, fillA, setRange, storeB_cells, set_push_eq, setRange_all, slitA, show zeros 1 [Value.int .i64 0, .int .i64 0, .int .i64 0] = [.int .i64 0, .int .i64 0, .int .i64 0] from rfl, p1', n15, apartA, q1, m15, mY, hwl, hcm, ints_get, nilCheckA, f5, f6, take_set, hl1, List.length_set, hS1, show Y ≠ A.n by omega, e5, show A.n ≠ y by omega]
      exact fin _ (by simp) (by simp) (by simp) (by simp) (by simp) (by simp) (by simp) (by simp) (by simp) _
end
end Go.Ab.Grid
set_option maxRecDepth 100000
namespace Go.Ab.Grid
open Go Go.Ab
def emp (W : List Int) : Nat → Bool
  | 0 => false
  | i + 1 => emp W i || decide (gi W (i * 2 + 1) < gi W (i * 2))
section
variable {g : Nat} {rd : Option Nat} {T : List Value} {D : List Nat} {A : Hp} {Q : Ex → St → Prop} {V : Value → Hp → Prop}
theorem loop286 {A0 : Hp} {m : Nat} {W : List Int} {sw : Value} {T0 : List Value} (hW : RdS A0 2 m (ints W) sw) (hm : m < 1000000) (hg : g ≤ A0.n)
    (hQ : ∀ T' A', Ext' A0 A' → tget T' 17 = .bool (emp W m) → (∀ t, t = 9 ∨ t = 10 ∨ t = 11 ∨ t = 12 → tget T' t = tget T0 t) → Q (.exit 2) ⟨T', D, A'⟩) :
    ∀ (k i : Nat) {T : List Value} {A : Hp}, i + k = m → Ext' A0 A → tget T 17 = .bool (emp W i) → (∀ t, t = 9 ∨ t = 10 ∨ t = 11 ∨ t = 12 → tget T t = tget T0 t) → tget T 115 = sw → tget T 116 = .int .i64 m → tget T 117 = .int .i64 i → Go.Ab.W AP KL g rd (.loop body286) ⟨T, D, A⟩ Q := by
  intro k
  have lW : W.length = m * 2 := by have := hW.1; simpa using this
  induction k with
  | zero =>
    intro i T A hi hb t17 hk t115 t116 t117
    have : i = m := by omega
    subst this
    rw [W_loop]
    simp (disch := as_aux_lemma => first | omega | simp only [hDs] <;> omega | simp [isCell]) [hRs, takeMarks, resA, resAll, resOne, Value.cells, body286, t116, t117]
    exact hQ _ _ hb (by simp [t17]) fun t ht => by rcases ht with rfl | rfl | rfl | rfl <;> simp [hk]
  | succ k ih =>
    intro i T A hi hb t17 hk t115 t116 t117
    have e5 : wr .i64 ((i : Int) + 1) = ((i + 1 : Nat) : Int) := by rw [wrId (by omega) (by omega)]; simp
    have hAn := hb.1
    obtain ⟨wb, wc, wr', rfl, hwb⟩ := (hb.rdS hW).at (show i < m by omega)
    rw [W_loop]
    cases he : emp W i with
    | true =>
      rw [he] at t17
      simp (disch := as_aux_lemma => first | omega | simp only [hDs] <;> omega | simp [isCell]) [hRs, takeMarks, resA, resAll, resOne, Value.cells, body286, t17, t115, t116, t117, show ((i : Int) < m) by omega, show i < m by omega, idxSA_ok, hwb, ints_two, lW, storeB_cells, setRange_all, set_push_eq, e5]
      refine ih (i + 1) (by omega) (hb.trans (Ext'.push _ _)) ?_ ?_ ?_ ?_ ?_
      · simp [emp, he]
      · intro t ht; rcases ht with rfl | rfl | rfl | rfl <;> simp [hk]
      all_goals simp [t115, t116]
    | false =>
      rw [he] at t17
      simp (disch := as_aux_lemma => first | omega | simp only [hDs] <;> omega | simp [isCell]) [hRs, takeMarks, resA, resAll, resOne, Value.cells, body286, t17, t115, t116, t117, show ((i : Int) < m) by omega, show i < m by omega, idxSA_ok, hwb, ints_two, lW, storeB_cells, setRange_all, set_push_eq, e5]
      refine ih (i + 1) (by omega) (hb.trans (Ext'.push _ _)) ?_ ?_ ?_ ?_ ?_
      · simp [emp, he]
      · intro t ht; rcases ht with rfl | rfl | rfl | rfl <;> simp [hk]
      all_goals simp [t115, t116]
end
end Go.Ab.Grid
set_option maxRecDepth 100000
namespace Go.Ab.Grid
open Go Go.Ab
structure NarR (zs : List Int) (m : Nat) (R : Nat → Int → Int → Prop) (cur : List Int) : Prop where
  len : cur.length = m * 2
  lo : ∀ j, j < m → ∀ t, gi cur (j * 2) ≤ t ↔ gi zs (j * 2) ≤ t ∧ ∀ a b, R j a b → a ≤ t
  hi : ∀ j, j < m → ∀ t, t ≤ gi cur (j * 2 + 1) ↔ t ≤ gi zs (j * 2 + 1) ∧ ∀ a b, R j a b → t ≤ b
theorem wset_lo {cur : List Int} {c j : Nat} {lo hi : Int} (h : c * 2 + 2 ≤ cur.length) : gi (wset cur c lo hi) (j * 2) = if j = c then max (gi cur (c * 2)) lo else gi cur (j * 2) := by
  unfold wset
  rw [gi_setI (by simp; omega), if_neg (by omega), gi_setI (by omega)]
  by_cases h' : j = c
  · rw [if_pos (by omega), if_pos h']
  · rw [if_neg (by omega), if_neg h']
theorem wset_hi {cur : List Int} {c j : Nat} {lo hi : Int} (h : c * 2 + 2 ≤ cur.length) : gi (wset cur c lo hi) (j * 2 + 1) = if j = c then min (gi cur (c * 2 + 1)) hi else gi cur (j * 2 + 1) := by
  unfold wset
  rw [gi_setI (by simp; omega)]
  by_cases h' : j = c
  · rw [if_pos (by omega), if_pos h']
  · rw [if_neg (by omega), if_neg h', gi_setI (by omega), if_neg (by omega)]
theorem NarR.start {zs : List Int} {m : Nat} (h : zs.length = m * 2) : NarR zs m (fun _ _ _ => False) zs := ⟨h, fun _ _ _ => by simp, fun _ _ _ => by simp⟩
theorem NarR.congr {zs : List Int} {m : Nat} {R R' : Nat → Int → Int → Prop} {cur : List Int} (h : NarR zs m R cur) (hR : ∀ j a b, R j a b ↔ R' j a b) : NarR zs m R' cur :=
  ⟨h.len, fun j hj t => by rw [h.lo j hj t]; simp only [hR], fun j hj t => by rw [h.hi j hj t]; simp only [hR]⟩
theorem NarR.next {zs : List Int} {m c : Nat} {R : Nat → Int → Int → Prop} {cur : List Int} {x y : Int} (h : NarR zs m R cur) (hc : c < m) : NarR zs m (fun j a b => R j a b ∨ (j = c ∧ a = x ∧ b = y)) (wset cur c x y) := by
  have hl := h.len
  refine ⟨by unfold wset; simp [hl], fun j hj t => ?_, fun j hj t => ?_⟩
  · rw [wset_lo (by omega)]
    have h1 := h.lo j hj t
    by_cases hjc : j = c
    · subst hjc
      rw [if_pos rfl, Int.max_le, h1]
      constructor
      · rintro ⟨⟨p1, p2⟩, p3⟩
        refine ⟨p1, fun a b hr => ?_⟩
        rcases hr with hr | ⟨_, rfl, _⟩
        · exact p2 a b hr
        · exact p3
      · rintro ⟨p1, p2⟩
        exact ⟨⟨p1, fun a b hr => p2 a b (.inl hr)⟩, p2 x y (.inr ⟨rfl, rfl, rfl⟩)⟩
    · rw [if_neg hjc, h1]
      constructor
      · rintro ⟨p1, p2⟩
        refine ⟨p1, fun a b hr => ?_⟩
        rcases hr with hr | ⟨h', _, _⟩
        · exact p2 a b hr
        · exact absurd h' hjc
      · rintro ⟨p1, p2⟩
        exact ⟨p1, fun a b hr => p2 a b (.inl hr)⟩
  · rw [wset_hi (by omega)]
    have h1 := h.hi j hj t
    by_cases hjc : j = c
    · subst hjc
      rw [if_pos rfl, Int.le_min, h1]
      constructor
      · rintro ⟨⟨p1, p2⟩, p3⟩
        refine ⟨p1, fun a b hr => ?_⟩
        rcases hr with hr | ⟨_, _, rfl⟩
        · exact p2 a b hr
        · exact p3
      · rintro ⟨p1, p2⟩
        exact ⟨⟨p1, fun a b hr => p2 a b (.inl hr)⟩, p2 x y (.inr ⟨rfl, rfl, rfl⟩)⟩
    · rw [if_neg hjc, h1]
      constructor
      · rintro ⟨p1, p2⟩
        refine ⟨p1, fun a b hr => ?_⟩
        rcases hr with hr | ⟨h', _, _⟩
        · exact p2 a b hr
        · exact absurd h' hjc
      · rintro ⟨p1, p2⟩
        exact ⟨p1, fun a b hr => p2 a b (.inl hr)⟩
theorem NarR.uniq {zs : List Int} {m : Nat} {R : Nat → Int → Int → Prop} {u v : List Int} (h : NarR zs m R u) (h' : NarR zs m R v) : u = v := by
  refine list_gi (by rw [h.len, h'.len]) fun i hi => ?_
  rw [h.len] at hi
  obtain ⟨j, hj⟩ : ∃ j, i = j * 2 ∨ i = j * 2 + 1 := ⟨i / 2, by omega⟩
  rcases hj with rfl | rfl
  · have a := (h.lo j (by omega) (gi v (j * 2))).2 ((h'.lo j (by omega) _).1 (Int.le_refl _))
    have b := (h'.lo j (by omega) (gi u (j * 2))).2 ((h.lo j (by omega) _).1 (Int.le_refl _))
    omega
  · have a := (h.hi j (by omega) (gi v (j * 2 + 1))).2 ((h'.hi j (by omega) _).1 (Int.le_refl _))
    have b := (h'.hi j (by omega) (gi u (j * 2 + 1))).2 ((h.hi j (by omega) _).1 (Int.le_refl _))
    omega
def Rl (ls : List Int) (k : Nat) (j : Nat) (a b : Int) : Prop := ∃ i, i < k ∧ (gi ls (i * 3)).toNat = j ∧ a = gi ls (i * 3 + 1) - gi ls (i * 3 + 2) ∧ b = gi ls (i * 3 + 1) + gi ls (i * 3 + 2)
theorem Rl_succ {ls : List Int} {k j : Nat} {a b : Int} : Rl ls (k + 1) j a b ↔ Rl ls k j a b ∨ (j = (gi ls (k * 3)).toNat ∧ a = gi ls (k * 3 + 1) - gi ls (k * 3 + 2) ∧ b = gi ls (k * 3 + 1) + gi ls (k * 3 + 2)) := by
  constructor
  · rintro ⟨i, hi, h1, h2, h3⟩
    by_cases h : i = k
    · subst h; exact .inr ⟨h1.symm, h2, h3⟩
    · exact .inl ⟨i, by omega, h1, h2, h3⟩
  · rintro (⟨i, hi, h⟩ | ⟨h1, h2, h3⟩)
    · exact ⟨i, by omega, h⟩
    · exact ⟨k, by omega, h1.symm, h2, h3⟩
def Vd (m : Nat) (cur : List Int) : Prop := ∀ j, j < m → gi cur (j * 2) ≤ gi cur (j * 2 + 1)
theorem goM_nar {zs ls : List Int} {m n : Nat} (hc : ∀ i, i < n → (gi ls (i * 3)).toNat < m) : ∀ (k i : Nat) {cur : List Int}, i + k = n → NarR zs m (Rl ls i) cur → Vd m cur →
    (∃ l, goM (meaStep ls) k i cur = .ok l ∧ NarR zs m (Rl ls n) l ∧ Vd m l) ∨ (∃ i', goM (meaStep ls) k i cur = .error i' ∧ i' < n ∧ ∀ W, NarR zs m (Rl ls n) W → ∃ j, j < m ∧ gi W (j * 2 + 1) < gi W (j * 2)) := by
  intro k
  induction k with
  | zero =>
    intro i cur hi hn hv
    have : i = n := by omega
    subst this
    exact .inl ⟨cur, rfl, hn, hv⟩
  | succ k ih =>
    intro i cur hi hn hv
    have hci := hc i (by omega)
    have hl := hn.len
    by_cases h : max (gi cur ((gi ls (i * 3)).toNat * 2)) (gi ls (i * 3 + 1) - gi ls (i * 3 + 2)) ≤ min (gi cur ((gi ls (i * 3)).toNat * 2 + 1)) (gi ls (i * 3 + 1) + gi ls (i * 3 + 2))
    · have hs : goM (meaStep ls) (k + 1) i cur = goM (meaStep ls) k (i + 1) (wset cur (gi ls (i * 3)).toNat (gi ls (i * 3 + 1) - gi ls (i * 3 + 2)) (gi ls (i * 3 + 1) + gi ls (i * 3 + 2))) := by
        rw [goM, meaStep, meetZ, if_pos h]; rfl
      rw [hs]
      refine ih (i + 1) (by omega) ((hn.next hci).congr fun j a b => Rl_succ.symm) fun j hj => ?_
      rw [wset_lo (by omega), wset_hi (by omega)]
      by_cases hjc : j = (gi ls (i * 3)).toNat
      · rw [if_pos hjc, if_pos hjc]; exact h
      · rw [if_neg hjc, if_neg hjc]; exact hv j hj
    · refine .inr ⟨i, by rw [goM, meaStep, meetZ, if_neg h], by omega, fun W hW => ⟨_, hci, ?_⟩⟩
      have a1 := (hW.lo _ hci _).1 (Int.le_refl _)
      have a2 := (hW.hi _ hci _).1 (Int.le_refl _)
      have b1 : gi cur ((gi ls (i * 3)).toNat * 2) ≤ gi W ((gi ls (i * 3)).toNat * 2) := (hn.lo _ hci _).2 ⟨a1.1, fun a b ⟨q, hq, hr⟩ => a1.2 a b ⟨q, by omega, hr⟩⟩
      have b2 : gi W ((gi ls (i * 3)).toNat * 2 + 1) ≤ gi cur ((gi ls (i * 3)).toNat * 2 + 1) := (hn.hi _ hci _).2 ⟨a2.1, fun a b ⟨q, hq, hr⟩ => a2.2 a b ⟨q, by omega, hr⟩⟩
      have c1 := a1.2 _ _ ⟨i, by omega, rfl, rfl, rfl⟩
      have c2 := a2.2 _ _ ⟨i, by omega, rfl, rfl, rfl⟩
      omega
theorem emp_iff {W : List Int} : ∀ {m : Nat}, emp W m = true ↔ ∃ j, j < m ∧ gi W (j * 2 + 1) < gi W (j * 2)
  | 0 => by simp [emp]
  | m + 1 => by
    rw [emp, Bool.or_eq_true, emp_iff, decide_eq_true_eq]
    constructor
    · rintro (⟨j, h1, h2⟩ | h)
      · exact ⟨j, by omega, h2⟩
      · exact ⟨m, by omega, h⟩
    · rintro ⟨j, h1, h2⟩
      by_cases h : j = m
      · subst h; exact .inr h2
      · exact .inl ⟨j, by omega, h2⟩
theorem mea_nar {x : G} {n : Nat} {ls : List Int} (hE : x.E = 0) (hl : x.zs.length = x.m * 2) (hn : n ≤ 4096) (hv : Vd x.m x.zs) (hs : sndE x.m ls n 0 = 0) {W : List Int} (hW : NarR x.zs x.m (Rl ls n) W) :
    (emp W x.m = false ∧ meaF x n ls = ({ x with zs := W }, 0, 0)) ∨ (emp W x.m = true ∧ ∃ i, i < n ∧ meaF x n ls = (G0, ((i : Nat) : Int), 14)) := by
  have hc : ∀ i, i < n → (gi ls (i * 3)).toNat < x.m := fun i hi => by
    have := sndC_zero (sndE_all hs i (by omega) (by omega))
    omega
  have h0 : NarR x.zs x.m (Rl ls 0) x.zs := (NarR.start hl).congr fun j a b => ⟨fun h => h.elim, fun ⟨i, hi, _⟩ => by omega⟩
  have hf : meaF x n ls = outG x (goM (meaStep ls) n 0 x.zs) := by rw [meaF, if_pos hE, if_pos (by omega), if_pos hs]
  rcases goM_nar hc n 0 (by omega) h0 hv with ⟨l, h1, h2, h3⟩ | ⟨i, h1, h2, h3⟩
  · have := h2.uniq hW
    subst this
    refine .inl ⟨?_, by rw [hf, h1]; rfl⟩
    cases he : emp l x.m with
    | false => rfl
    | true =>
      obtain ⟨j, hj, hlt⟩ := emp_iff.1 he
      have := h3 j hj
      omega
  · exact .inr ⟨emp_iff.2 (h3 W hW), i, h2, by rw [hf, h1]; rfl⟩
theorem Land.zs_get {L : Land} : ∀ {n j : Nat}, j < n → gi (L.zs n) (j * 2) = L.lo j ∧ gi (L.zs n) (j * 2 + 1) = L.hi j
  | 0, j, h => by omega
  | n + 1, j, h => by
    have hl : (L.zs n).length = n * 2 := Land.zs_len
    rw [Land.zs]
    by_cases hj : j = n
    · subst hj
      exact ⟨gi_r (j := 0) hl, gi_r (j := 1) hl⟩
    · obtain ⟨a, b⟩ := Land.zs_get (L := L) (n := n) (j := j) (by omega)
      rw [gi_l (by omega), gi_l (by omega)]
      exact ⟨a, b⟩
theorem Land.Ok.rng {L : Land} (h : L.Ok) (i : Nat) : -32768 ≤ L.lo i ∧ L.lo i ≤ L.hi i ∧ L.hi i ≤ 33022 := by
  have a : -32768 ≤ L.lo i ∧ L.lo i ≤ 32767 := by unfold Land.lo; split; exact h.low _; omega
  have b : L.lo i ≤ L.hi i ∧ L.hi i ≤ L.lo i + 255 := by
    unfold Land.hi
    split
    · have := h.more (i % L.nm); omega
    · omega
  omega
theorem Land.Ok.vd {L : Land} (h : L.Ok) : Vd L.n L.G.zs := fun j hj => by
  obtain ⟨a, b⟩ := Land.zs_get (L := L) hj
  show gi (L.zs L.n) (j * 2) ≤ gi (L.zs L.n) (j * 2 + 1)
  rw [a, b]
  exact (h.rng j).2.1
theorem Land.Ok.E {L : Land} (h : L.Ok) : L.G.E = 0 := by
  have hw := h.w
  have hh := h.h
  have hn := h.n
  show gridE L.w L.h 100 L.n (L.zs L.n) = 0
  refine gridE_d ?_ (by rw [← hn.1]; exact (wrId (by omega) (by omega)).symm) ?_
  · rw [show (decide (1 ≤ L.w) && decide (L.w ≤ 24)) = true by simp; omega, show (decide (1 ≤ L.h) && decide (L.h ≤ 24)) = true by simp; omega]
    decide
  · rw [List.any_eq_false]
    intro j hj
    rw [List.mem_range] at hj
    obtain ⟨a, b⟩ := Land.zs_get (L := L) hj
    have r := h.rng j
    have : grd (L.zs L.n) j = true := by
      unfold grd validB
      rw [a, b]
      simp
      omega
    rw [this]
    decide
theorem sndE_zero {m : Nat} {ls : List Int} : ∀ {k i : Nat}, (∀ j, i ≤ j → j < i + k → sndC m ls j = 0) → sndE m ls k i = 0
  | 0, _, _ => rfl
  | k + 1, i, h => by
    rw [sndE, if_pos (h i (Nat.le_refl _) (by omega))]
    exact sndE_zero fun j h1 h2 => h j (by omega) (by omega)
def Ro (o : Ord) (k : Nat) (j : Nat) (a b : Int) : Prop := ∃ i, i < k ∧ (o.c i).toNat = j ∧ a = o.h i - o.e i ∧ b = o.h i + o.e i
theorem Ord.want_nar {o : Ord} {zs : List Int} (hO : o.Ok) (hz : zs.length = o.m * 2) : ∀ k, NarR zs o.m (Ro o k) (o.want zs k)
  | 0 => (NarR.start hz).congr fun j a b => ⟨fun h => h.elim, fun ⟨i, hi, _⟩ => by omega⟩
  | k + 1 => by
    refine ((Ord.want_nar hO hz k).next (c := (o.c k).toNat) (x := o.h k - o.e k) (y := o.h k + o.e k) (by have := hO.cr k; omega)).congr fun j a b => ?_
    constructor
    · rintro (⟨i, hi, h⟩ | ⟨h1, h2, h3⟩)
      · exact ⟨i, by omega, h⟩
      · exact ⟨k, by omega, h1.symm, h2, h3⟩
    · rintro ⟨i, hi, h1, h2, h3⟩
      by_cases h : i = k
      · subst h; exact .inr ⟨h1.symm, h2, h3⟩
      · exact .inl ⟨i, by omega, h1, h2, h3⟩
theorem Ord.ls_get {o : Ord} : ∀ {n j : Nat}, j < n → gi (o.ls n) (j * 3) = o.c j ∧ gi (o.ls n) (j * 3 + 1) = o.h j ∧ gi (o.ls n) (j * 3 + 2) = o.e j
  | 0, j, h => by omega
  | n + 1, j, h => by
    have hl : (o.ls n).length = n * 3 := Ord.ls_len
    rw [Ord.ls]
    by_cases hj : j = n
    · subst hj
      exact ⟨gi_r (j := 0) hl, gi_r (j := 1) hl, gi_r (j := 2) hl⟩
    · obtain ⟨a, b, c⟩ := Ord.ls_get (o := o) (n := n) (j := j) (by omega)
      rw [gi_l (by omega), gi_l (by omega), gi_l (by omega)]
      exact ⟨a, b, c⟩
theorem Ord.rv_get {o : Ord} : ∀ {n j : Nat}, j < n → gi (o.rv n) (j * 3) = o.c (n - 1 - j) ∧ gi (o.rv n) (j * 3 + 1) = o.h (n - 1 - j) ∧ gi (o.rv n) (j * 3 + 2) = o.e (n - 1 - j)
  | 0, j, h => by omega
  | n + 1, j, h => by
    rw [Ord.rv]
    by_cases hj : j = 0
    · subst hj
      exact ⟨rfl, rfl, rfl⟩
    · obtain ⟨q, rfl⟩ : ∃ q, j = q + 1 := ⟨j - 1, by omega⟩
      obtain ⟨a, b, c⟩ := Ord.rv_get (o := o) (n := n) (j := q) (by omega)
      have e : n + 1 - 1 - (q + 1) = n - 1 - q := by omega
      rw [e, show (q + 1) * 3 = 3 + q * 3 by omega, show 3 + q * 3 + 1 = 3 + (q * 3 + 1) by omega, show 3 + q * 3 + 2 = 3 + (q * 3 + 2) by omega, gi_r (l := [o.c n, o.h n, o.e n]) (i := 3) rfl, gi_r (l := [o.c n, o.h n, o.e n]) (i := 3) rfl, gi_r (l := [o.c n, o.h n, o.e n]) (i := 3) rfl]
      exact ⟨a, b, c⟩
theorem Ord.Ok.snd {o : Ord} (hO : o.Ok) {i j : Nat} {ls : List Int} (h : gi ls (j * 3) = o.c i ∧ gi ls (j * 3 + 1) = o.h i ∧ gi ls (j * 3 + 2) = o.e i) : sndC o.m ls j = 0 := by
  have a := hO.cr i
  have b : -32768 ≤ o.h i ∧ o.h i ≤ 32767 := hO.h _
  have c : 0 ≤ o.e i ∧ o.e i ≤ 255 := hO.e _
  rw [sndC, h.1, h.2.1, h.2.2, if_pos (by simp; omega), if_pos (by simp; omega), if_pos (by simp; omega)]
theorem ord_law {L : Land} {o : Ord} (hL : L.Ok) (hO : o.Ok) (hm : o.m = L.n) :
    (emp (o.want L.G.zs o.n) L.n = false ∧ meaF L.G o.n (o.ls o.n) = ({ L.G with zs := o.want L.G.zs o.n }, 0, 0) ∧ meaF L.G o.n (o.rv o.n) = ({ L.G with zs := o.want L.G.zs o.n }, 0, 0)) ∨
      (emp (o.want L.G.zs o.n) L.n = true ∧ ∃ i i', i < o.n ∧ meaF L.G o.n (o.ls o.n) = (G0, ((i : Nat) : Int), 14) ∧ meaF L.G o.n (o.rv o.n) = (G0, ((i' : Nat) : Int), 14)) := by
  have hz : L.G.zs.length = L.G.m * 2 := Land.zs_len
  have hW := Ord.want_nar hO (zs := L.G.zs) (by rw [hm]; exact hz) o.n
  rw [hm] at hW
  have h1 : NarR L.G.zs L.G.m (Rl (o.ls o.n) o.n) (o.want L.G.zs o.n) := hW.congr fun j a b => by
    constructor
    · rintro ⟨i, hi, p1, p2, p3⟩
      obtain ⟨q1, q2, q3⟩ := Ord.ls_get (o := o) hi
      exact ⟨i, hi, by rw [q1]; exact p1, by rw [q2, q3]; exact p2, by rw [q2, q3]; exact p3⟩
    · rintro ⟨i, hi, p1, p2, p3⟩
      obtain ⟨q1, q2, q3⟩ := Ord.ls_get (o := o) hi
      rw [q1] at p1; rw [q2, q3] at p2 p3
      exact ⟨i, hi, p1, p2, p3⟩
  have h2 : NarR L.G.zs L.G.m (Rl (o.rv o.n) o.n) (o.want L.G.zs o.n) := hW.congr fun j a b => by
    constructor
    · rintro ⟨i, hi, p1, p2, p3⟩
      obtain ⟨q1, q2, q3⟩ := Ord.rv_get (o := o) (j := o.n - 1 - i) (show o.n - 1 - i < o.n by omega)
      rw [show o.n - 1 - (o.n - 1 - i) = i by omega] at q1 q2 q3
      exact ⟨o.n - 1 - i, by omega, by rw [q1]; exact p1, by rw [q2, q3]; exact p2, by rw [q2, q3]; exact p3⟩
    · rintro ⟨i, hi, p1, p2, p3⟩
      obtain ⟨q1, q2, q3⟩ := Ord.rv_get (o := o) hi
      rw [q1] at p1; rw [q2, q3] at p2 p3
      exact ⟨o.n - 1 - i, by omega, p1, p2, p3⟩
  have s1 : sndE L.G.m (o.ls o.n) o.n 0 = 0 := sndE_zero fun j _ hj => by
    have := hO.snd (Ord.ls_get (o := o) (n := o.n) (j := j) (by omega))
    rw [hm] at this; exact this
  have s2 : sndE L.G.m (o.rv o.n) o.n 0 = 0 := sndE_zero fun j _ hj => by
    have := hO.snd (Ord.rv_get (o := o) (n := o.n) (j := j) (by omega))
    rw [hm] at this; exact this
  have hn : o.n ≤ 4096 := by have := hO.n.2; omega
  rcases mea_nar hL.E hz hn hL.vd s1 h1 with ⟨a1, a2⟩ | ⟨a1, i, a2, a3⟩
  · rcases mea_nar hL.E hz hn hL.vd s2 h2 with ⟨b1, b2⟩ | ⟨b1, _⟩
    · exact .inl ⟨a1, a2, b2⟩
    · rw [show L.G.m = L.n from rfl] at a1 b1; rw [a1] at b1; cases b1
  · rcases mea_nar hL.E hz hn hL.vd s2 h2 with ⟨b1, b2⟩ | ⟨b1, i', b2, b3⟩
    · rw [show L.G.m = L.n from rfl] at a1 b1; rw [a1] at b1; cases b1
    · exact .inr ⟨a1, i, i', a2, a3, b3⟩
end Go.Ab.Grid
set_option maxRecDepth 100000
namespace Go.Ab.Grid
open Go Go.Ab
def pa286 : ACode := (.ops [
oP 4 (.box (.t 0)),
oP 8 (.move (.k (.bool false)))])
def pb286 : ACode := (.seq
 (.ops [
oM 26 1,
oP 27 (.len (.t 26)),
oC 28 .gtr 27 12,
oM 29 28,
oN 30 29 false 2,
oQ 31 29 false (.len (.t 30)),
oQ 32 29 false (.bin .eql (.t 31) (oK 0)),
oP 33 (.pick (.t 29) (.k (.bool true)) (.t 32)),
oM 34 33,
oN 35 34 false 3,
oQ 36 34 false (.len (.t 35)),
oQ 37 34 false (.bin .eql (.t 36) (oK 0)),
oP 38 (.pick (.t 34) (.k (.bool true)) (.t 37))])
 (.cond (.t 38)
 (.seq
 (.ops [
oA 39 289 [] false,
oM 8 39])
 .ret)
 .skip))
def pr286 : ACode := (.seq
 (.ops [
oD 40 4 4,
oA 41 310 [.t 40] false,
oP 9 (.alloc [.int .i64 0, .int .i64 0, .int .i64 0, .slice none 0 0]),
oT 9 41 4])
 (.seq
 (.ops [
oP 10 (.move (.k (.slice none 0 0))),
oP 11 (.move (.k (.slice none 0 0)))])
 (.seq
 (.ops [
oP 42 (.slit 0 2 [.int .i64 0, .int .i64 0] []),
oF 43 9 3,
oL 44 43,
oP 45 (.append (.t 42) (.t 44) 2 16),
oM 12 45])
 (.seq
 (.seq
 (.ops [
oM 46 1,
oP 47 (.len (.t 46)),
oP 48 (.move (oK 0))])
 (.block 0
 (.loop
 (.seq
 (.ops [
oB 49 .lss 48 47])
 (.seq
 (.cond (.t 49)
 .skip
 (.exit 0))
 (.seq
 (.block 1
 (.seq
 (.ops [
oM 50 48,
oI 51 46 48 1,
oL 52 51,
oM 13 50,
oM 14 52])
 (.seq
 (.ops [
oM 53 14,
oP 54 (.toInt .i64 (.t 53)),
oF 55 9 3,
oL 56 55,
oP 57 (.len (.t 56)),
oB 58 .rem 54 57,
oM 59 2,
oM 60 13,
oM 61 2,
oP 62 (.len (.t 61)),
oB 63 .rem 60 62,
oI 64 59 63 1,
oL 65 64,
oP 66 (.toInt .i64 (.t 65)),
oM 67 3,
oM 68 13,
oM 69 3,
oP 70 (.len (.t 69)),
oB 71 .rem 68 70,
oI 72 67 71 1,
oL 73 72,
oP 74 (.toInt .i64 (.t 73)),
oP 75 (.build [.int .i64 0, .int .i64 0, .int .i64 0] [(0, 1, .t 58), (1, 1, .t 66), (2, 1, .t 74)]),
oP 15 (.alloc [.int .i64 0, .int .i64 0, .int .i64 0]),
oT 15 75 3])
 (.seq
 (.ops [
oM 76 10,
oD 77 15 3,
oP 78 (.slit 1 3 [.int .i64 0, .int .i64 0, .int .i64 0] [(0, .t 77)]),
oP 79 (.append (.t 76) (.t 78) 3 24),
⟨some 80, none, [(.t 76, 0, .t 15, 3)], .load (.t 15) (some 3)⟩,
oP 81 (.slit 1 3 [.int .i64 0, .int .i64 0, .int .i64 0] [(0, .t 80)]),
oM 82 11,
oP 83 (.append (.t 81) (.t 82) 3 24),
oM 10 79,
oM 11 83])
 (.seq
 (.ops [
oM 84 12,
oF 85 15 0,
oL 86 85,
oI 87 84 86 2,
oM 16 87])
 (.ops [
oM 88 16,
oM 89 16,
oM 90 16,
oP 91 (.nilCheck (.t 90)),
oF 92 91 0,
oL 93 92,
oF 94 15 1,
oL 95 94,
oF 96 15 2,
oL 97 96,
oB 98 .sub 95 97,
oP 99 (.max [.t 93, .t 98]),
oM 100 16,
oP 101 (.nilCheck (.t 100)),
oF 102 101 1,
oL 103 102,
oF 104 15 1,
oL 105 104,
oF 106 15 2,
oL 107 106,
oB 108 .add 105 107,
oP 109 (.min [.t 103, .t 108]),
oP 110 (.nilCheck (.t 88)),
oF 111 110 0,
⟨none, none, [(.t 111, 1, .t 104, 1), (.t 111, 1, .t 106, 1)], .store (.t 111) (.t 99) 1⟩,
oP 112 (.nilCheck (.t 89)),
oF 113 112 1,
oT 113 109 1]))))))
 (.ops [
oC 114 .add 48 1,
oM 48 114])))))))
 (.seq
 (.ops [
oP 17 (.move (.k (.bool false)))])
 (.seq
 (.seq
 (.ops [
oM 115 12,
oP 116 (.len (.t 115)),
oP 117 (.move (oK 0))])
 (.block 2
 (.loop
 (.seq
 (.ops [
oB 118 .lss 117 116])
 (.seq
 (.cond (.t 118)
 .skip
 (.exit 2))
 (.seq
 (.block 3
 (.seq
 (.ops [
oI 119 115 117 2,
oD 120 119 2,
oP 19 (.alloc [.int .i64 0, .int .i64 0]),
oT 19 120 2])
 (.ops [
oM 121 17,
oM 122 121,
oQ 123 122 false (.fieldAddr (.t 19) 0),
oQ 124 122 false (.load (.t 123) none),
oQ 125 122 false (.fieldAddr (.t 19) 1),
oQ 126 122 false (.load (.t 125) none),
oQ 127 122 false (.bin .gtr (.t 124) (.t 126)),
oP 128 (.pick (.t 122) (.k (.bool true)) (.t 127)),
oM 17 128])))
 (.ops [
oC 129 .add 117 1,
oM 117 129])))))))
 (.seq
 (.ops [
oD 131 9 4,
oM 132 10,
oA 133 302 [.t 131, .t 132] false,
oM 130 133,
oX 134 130 0,
oX 135 130 1,
oX 136 130 2,
oP 20 (.alloc [.int .i64 0, .int .i64 0, .int .i64 0, .slice none 0 0]),
oT 20 134 4,
oM 21 135,
oM 22 136])
 (.seq
 (.ops [
oD 138 9 4,
oM 139 11,
oA 140 302 [.t 138, .t 139] false,
oM 137 140,
oX 141 137 0,
oX 142 137 1,
oX 143 137 2,
oP 23 (.alloc [.int .i64 0, .int .i64 0, .int .i64 0, .slice none 0 0]),
oT 23 141 4,
oM 24 142,
oM 25 143])
 (.seq
 (.seq
 (.ops [
oM 144 22,
oM 145 25,
oB 146 .neq 144 145,
oM 147 146,
oQ 148 147 false (.load (.t 20) (some 4)),
oQ 149 147 false (.load (.t 23) (some 4)),
oQ 150 147 false (.call (.k (.func (.func 301) ⟨[]⟩ ⟨[]⟩)) [.t 148, .t 149] false),
oQ 151 147 false (.not (.t 150)),
oP 152 (.pick (.t 147) (.k (.bool true)) (.t 151)),
oM 153 152,
oN 154 153 false 17,
oN 155 153 false 22,
oQ 156 153 false (.bin .eql (.t 155) (oK 14)),
oQ 157 153 false (.beq true (.t 154) (.t 156)),
oP 158 (.pick (.t 153) (.k (.bool true)) (.t 157))])
 (.cond (.t 158)
 (.seq
 (.ops [
oP 8 (.move (.k (.bool false)))])
 .ret)
 .skip))
 (.seq
 (.seq
 (.ops [
oM 159 17])
 (.cond (.t 159)
 (.seq
 (.ops [
oM 160 21,
oC 161 .geq 160 0,
oM 162 161,
oN 163 162 true 21,
oN 164 162 true 10,
oQ 165 162 true (.len (.t 164)),
oQ 166 162 true (.bin .lss (.t 163) (.t 165)),
oP 167 (.pick (.t 162) (.t 166) (.k (.bool false))),
oM 168 167,
oQ 169 168 true (.call (.k (.func (.func 289) ⟨[]⟩ ⟨[]⟩)) [] false),
oP 170 (.pick (.t 168) (.t 169) (.k (.bool false))),
oM 8 170])
 .ret)
 .skip))
 (.seq
 (.ops [
oM 171 22,
oC 172 .eql 171 0,
oM 173 172,
oQ 174 173 true (.fieldAddr (.t 20) 3),
oQ 175 173 true (.load (.t 174) none),
oN 176 173 true 12,
oQ 177 173 true (.call (.k (.func (.func 294) ⟨[]⟩ ⟨[]⟩)) [.t 175, .t 176] false),
oP 178 (.pick (.t 173) (.t 177) (.k (.bool false))),
oM 179 178,
oQ 180 179 true (.call (.k (.func (.func 289) ⟨[]⟩ ⟨[]⟩)) [] false),
oP 181 (.pick (.t 179) (.t 180) (.k (.bool false))),
oM 8 181])
 .ret)))))))))))
theorem AP286 : AP 286 = some (.fn 182 [.tmp 8] (.seq pa286 (.seq pb286 pr286))) := rfl
section
variable {g : Nat} {rd : Option Nat} {T : List Value} {D : List Nat} {A : Hp} {Q : Ex → St → Prop} {V : Value → Hp → Prop}
theorem rest286 {L : Land} {o : Ord} {sl sm sc sh se : Value} {XL : Nat} {A : Hp} {T : List Value} (hL : L.Ok) (hO : o.Ok) (hm : o.m = L.n) (hat : L.At A sl sm) (hc : RdS A 1 o.n (kints .u8 o.cs) sc) (hh : RdS A 1 o.nh (kints .i16 o.hs) sh) (he : RdS A 1 o.ne (kints .u8 o.es) se)
    (hXL : A.get XL = some (.cells [.int .u8 L.wide, .int .u8 L.high, sl, sm] false)) (hg : g ≤ A.n) (t4 : tget T 4 = .pointer (some ⟨XL, 0, none⟩)) (t1 : tget T 1 = sc) (t2 : tget T 2 = sh) (t3 : tget T 3 = se) (hV : ∀ A', V (.bool true) A') :
    W AP KL g none pr286 ⟨T, [], A⟩ (FinQ [.tmp 8] V) := by
  have hln := hL.n
  have hn12 := hO.n.2
  simp (disch := as_aux_lemma => first | omega | simp only [hDs] <;> omega | simp [isCell]) [hRs, takeMarks, resA, resAll, resOne, Value.cells, pr286, t4, hXL]
  refine w310 (L := L) hL hat hg fun A1 v1 e1 hv1 => ?_
  obtain ⟨sg, rfl, rg⟩ := hv1
  obtain ⟨pg, cg, rfl⟩ := rg.isSlice'
  have n1 := e1.1
  simp (disch := as_aux_lemma => first | omega | simp only [hDs] <;> omega | simp [isCell]) [hRs, takeMarks, resA, resAll, resOne, Value.cells, gridV, storeB_cells, setRange_all, set_push_eq, slitA, zeros, fillA]
  obtain ⟨B, hB⟩ : ∃ B, B = A1.push (.cells [.int .i64 L.G.w, .int .i64 L.G.h, .int .i64 L.G.s, .slice pg L.G.m cg] false) := ⟨_, rfl⟩
  rw [← hB]
  have eB : Ext' A1 B := by rw [hB]; exact Ext'.push _ _
  have nB : B.n = A1.n + 1 := by rw [hB]; rfl
  have b9 : B.get A1.n = some (.cells [.int .i64 L.G.w, .int .i64 L.G.h, .int .i64 L.G.s, .slice pg L.G.m cg] false) := by rw [hB]; exact get_push_new
  have hmG : L.G.m = L.n := rfl
  obtain ⟨Y, c, A2, h1, e2, hGY, hYB⟩ := copy_fresh (g := g) (bytes := 16) (eB.rdS rg) (ints_isCell _) (by omega) (by decide) (by unfold room; omega)
  have n2 := e2.1
  have hYn := Hp.lt_of_get hGY
  rw [nB] at h1
  have e02 := (e1.trans eB).trans e2
  have hlc := hc.len
  simp (disch := as_aux_lemma => first | omega | simp only [hDs] <;> omega | simp [isCell]) [hRs, takeMarks, resA, resAll, resOne, Value.cells, h1, t1, hlc]
  have hzl : L.G.zs.length = o.m * 2 := by rw [hm]; exact Land.zs_len
  refine loop286a (o := o) (zs := L.G.zs) (XG := A1.n) (Y := Y) (c := c) (w := L.G.w) (h := L.G.h) (s := L.G.s) (sg := .slice pg L.G.m cg) (sc := sc) (sh := sh) (se := se) hO hzl (e02.rdS hc) (e02.rdS hh) (e02.rdS he) (e2.get b9) (by rw [hm]; rfl) hYn (by omega) ?_ ?_ ?_ (by omega)
    (fun T1 A3 s10 s11 hI k9 k10 k11 k12 => ?_) o.n 0 (.slice none 0 0) (.slice none 0 0) (by omega) ⟨But.of_ext ⟨Nat.le_refl _, fun _ _ => rfl⟩, hGY, AccS.nil, ⟨rfl, .inl ⟨rfl, rfl⟩⟩, fun z hz => by cases hz⟩ ?_ ?_ ?_ ?_ ?_ ?_ ?_ ?_ ?_
  · intro z hz; have := hc.blk_lt hz; omega
  · intro z hz; have := hh.blk_lt hz; omega
  · intro z hz; have := he.blk_lt hz; omega
  · obtain ⟨hb, hYW, a10, a11, b11⟩ := hI
    have n3 := hb.1
    have hWl : (o.want L.G.zs o.n).length = L.n * 2 := by rw [Ord.want_len]; exact Land.zs_len
    have hWr : RdS A3 2 L.n (ints (o.want L.G.zs o.n)) (.slice (some ⟨Y, 0, some 2⟩) o.m c) := ⟨by simpa using hWl, .inr ⟨Y, c, false, by rw [hm], hYW⟩⟩
    have q9 : A3.get A1.n = some (.cells [.int .i64 L.G.w, .int .i64 L.G.h, .int .i64 L.G.s, .slice pg L.G.m cg] false) := by rw [hb.2 _ (by omega) (by omega)]; exact e2.get b9
    have rg3 : RdS A3 2 L.G.m (ints L.G.zs) (.slice pg L.G.m cg) := ((eB.trans e2).rdS rg).keepB fun z hz => hb.2 z (by have := rg.blk_lt hz; omega) (by have := rg.blk_lt hz; omega)
    obtain ⟨n', r10⟩ := a10.rdS
    have hnn : n' = o.n := by have a := r10.1; simp [Ord.ls_len] at a; omega
    subst hnn
    simp (disch := as_aux_lemma => first | omega | simp only [hDs] <;> omega | simp [isCell]) [hRs, takeMarks, resA, resAll, resOne, Value.cells, k12]
    refine loop286 (T0 := T1) (sw := .slice (some ⟨Y, 0, some 2⟩) o.m c) hWr (by omega) (by omega) (fun T2 A4 e4 j17 hk => ?_) L.n 0 (by omega) ⟨Nat.le_refl _, fun _ _ => rfl⟩ ?_ ?_ ?_ ?_ ?_
    · have j9 := (hk 9 (by simp)).trans k9
      have j10 := (hk 10 (by simp)).trans k10
      have j11 := (hk 11 (by simp)).trans k11
      have j12 := (hk 12 (by simp)).trans k12
      have n4 := e4.1
      simp (disch := as_aux_lemma => first | omega | simp only [hDs] <;> omega | simp [isCell]) [hRs, takeMarks, resA, resAll, resOne, Value.cells, j9, j10, j11, j12, e4.get q9]
      refine w302 (x := L.G) ⟨_, rfl, e4.rdS rg3⟩ (e4.rdS r10) (by omega) (by omega) (by omega) fun A5 v5 e5 hv5 => ?_
      obtain ⟨vg5, rfl, s5, rfl, r5⟩ := hv5
      obtain ⟨p5, c5, rfl⟩ := r5.isSlice'
      have n5 := e5.1
      obtain ⟨r, hr⟩ : ∃ r, r = meaF L.G o.n (o.ls o.n) := ⟨_, rfl⟩
      rw [← hr] at r5 ⊢
      simp (disch := as_aux_lemma => first | omega | simp only [hDs] <;> omega | simp [isCell]) [hRs, takeMarks, resA, resAll, resOne, Value.cells, gridV, storeB_cells, setRange_all, set_push_eq, j9, j11, get_push_old, (e4.trans e5).get q9]
      obtain ⟨C5, hC5⟩ : ∃ C5, C5 = A5.push (.cells [.int .i64 r.1.w, .int .i64 r.1.h, .int .i64 r.1.s, .slice p5 r.1.m c5] false) := ⟨_, rfl⟩
      rw [← hC5]
      have eC5 : Ext' A5 C5 := by rw [hC5]; exact Ext'.push _ _
      have nC5 : C5.n = A5.n + 1 := by rw [hC5]; rfl
      have k20 : C5.get A5.n = some (.cells [.int .i64 r.1.w, .int .i64 r.1.h, .int .i64 r.1.s, .slice p5 r.1.m c5] false) := by rw [hC5]; exact get_push_new
      have e35 := (e4.trans e5).trans eC5
      refine w302 (x := L.G) ⟨_, rfl, e35.rdS rg3⟩ (e35.rdS a11) (by omega) (by omega) (by omega) fun A6 v6 e6 hv6 => ?_
      obtain ⟨vg6, rfl, s6, rfl, r6⟩ := hv6
      obtain ⟨p6, c6, rfl⟩ := r6.isSlice'
      have n6 := e6.1
      obtain ⟨q, hq⟩ : ∃ q, q = meaF L.G o.n (o.rv o.n) := ⟨_, rfl⟩
      rw [← hq] at r6 ⊢
      have l20 := e6.get k20
      have l20n := Hp.lt_of_get l20
      obtain ⟨C6, hC6⟩ : ∃ C6, C6 = A6.push (.cells [.int .i64 q.1.w, .int .i64 q.1.h, .int .i64 q.1.s, .slice p6 q.1.m c6] false) := ⟨_, rfl⟩
      have eC6 : Ext' A6 C6 := by rw [hC6]; exact Ext'.push _ _
      have l23 : C6.get A6.n = some (.cells [.int .i64 q.1.w, .int .i64 q.1.h, .int .i64 q.1.s, .slice p6 q.1.m c6] false) := by rw [hC6]; exact get_push_new
      have e56 := eC5.trans (e6.trans eC6)
      rcases ord_law hL hO hm with ⟨hE, h1', h2'⟩ | ⟨hE, i, i', hi, h1', h2'⟩
      · rw [h1'] at hr
        rw [h2'] at hq
        subst hr
        subst hq
        rw [hE] at j17
        simp (disch := as_aux_lemma => first | omega | simp only [hDs] <;> omega | simp [isCell]) [hRs, takeMarks, resA, resAll, resOne, Value.cells, gridV, storeB_cells, setRange_all, set_push_eq, ← hC6, eC6.get l20, l23]
        refine w301 (x := { L.G with zs := o.want L.G.zs o.n }) (y := { L.G with zs := o.want L.G.zs o.n }) ⟨_, rfl, e56.rdS r5⟩ ⟨_, rfl, eC6.rdS r6⟩ (by show L.n < _; omega) rfl fun A7 e7 => ?_
        simp (disch := as_aux_lemma => first | omega | simp only [hDs] <;> omega | simp [isCell]) [hRs, takeMarks, resA, resAll, resOne, Value.cells, j17, beqA, e7.get (eC6.get l20), j12]
        refine w294 (e7.rdS (e56.rdS r5)) ((e35.trans ((e6.trans eC6).trans e7)).rdS hWr) (by show L.n < _; omega) ?_
        simp (disch := as_aux_lemma => first | omega | simp only [hDs] <;> omega | simp [isCell]) [hRs, takeMarks, resA, resAll, resOne, Value.cells]
        exact hV _
      · rw [h1'] at hr
        rw [h2'] at hq
        subst hr
        subst hq
        rw [hE] at j17
        have hl10 := (e4.rdS r10).len
        simp (disch := as_aux_lemma => first | omega | simp only [hDs] <;> omega | simp [isCell]) [hRs, takeMarks, resA, resAll, resOne, Value.cells, gridV, storeB_cells, setRange_all, set_push_eq, ← hC6, eC6.get l20, l23]
        refine w301 (x := G0) (y := G0) ⟨_, rfl, e56.rdS r5⟩ ⟨_, rfl, eC6.rdS r6⟩ (by decide) rfl fun A7 e7 => ?_
        simp (disch := as_aux_lemma => first | omega | simp only [hDs] <;> omega | simp [isCell]) [hRs, takeMarks, resA, resAll, resOne, Value.cells, j17, beqA, j10, hl10, show (0 : Int) ≤ (i : Int) by omega, hi]
        exact hV _
    · simp [emp]
    · intro t ht; rcases ht with rfl | rfl | rfl | rfl <;> simp
    · simp
    · simp [hm]
    · simp
  all_goals simp [t1, t2, t3, hm, hmG]
theorem law286 {L : Land} {o : Ord} {sl sm sc sh se : Value} (hL : L.Ok) (hn : o.cs.length = o.n) (hnh : o.hs.length = o.nh ∧ o.nh ≤ 9223372036854775807) (hne : o.es.length = o.ne ∧ o.ne ≤ 9223372036854775807)
    (rc : ∀ i, 0 ≤ gi o.cs i ∧ gi o.cs i ≤ 255) (rh : ∀ i, -32768 ≤ gi o.hs i ∧ gi o.hs i ≤ 32767) (re : ∀ i, 0 ≤ gi o.es i ∧ gi o.es i ≤ 255)
    (hm : o.m = L.n) (hat : L.At A sl sm) (hc : RdS A 1 o.n (kints .u8 o.cs) sc) (hh : RdS A 1 o.nh (kints .i16 o.hs) sh) (he : RdS A 1 o.ne (kints .u8 o.es) se) (hg : g ≤ A.n) (hV : ∀ A', V (.bool true) A') :
    WF AP KL g 286 [L.V sl sm, sc, sh, se] A V := by
  rw [WF_body (show KL 286 = none from rfl) AP286]
  have hlc := hc.len
  have hlh := hh.len
  have hle := he.len
  have hln := hL.n
  obtain ⟨B, hB⟩ : ∃ B, B = A.push (.cells [.int .u8 L.wide, .int .u8 L.high, sl, sm] false) := ⟨_, rfl⟩
  have eB : Ext' A B := by rw [hB]; exact Ext'.push _ _
  have b0 : B.get A.n = some (.cells [.int .u8 L.wide, .int .u8 L.high, sl, sm] false) := by rw [hB]; exact get_push_new
  have nB := eB.1
  by_cases h12 : (12 : Int) < o.n
  · simp (disch := as_aux_lemma => first | omega | simp only [hDs] <;> omega | simp [isCell]) [hRs, takeMarks, resA, resAll, resOne, Value.cells, pa286, pb286, Land.V, hlc, h12]
    exact hV _
  · by_cases h0h : o.nh = 0
    · simp (disch := as_aux_lemma => first | omega | simp only [hDs] <;> omega | simp [isCell]) [hRs, takeMarks, resA, resAll, resOne, Value.cells, pa286, pb286, Land.V, hlc, hlh, h12, h0h]
      exact hV _
    · by_cases h0e : o.ne = 0
      · simp (disch := as_aux_lemma => first | omega | simp only [hDs] <;> omega | simp [isCell]) [hRs, takeMarks, resA, resAll, resOne, Value.cells, pa286, pb286, Land.V, hlc, hlh, hle, h12, h0h, h0e]
        exact hV _
      · simp (disch := as_aux_lemma => first | omega | simp only [hDs] <;> omega | simp [isCell]) [hRs, takeMarks, resA, resAll, resOne, Value.cells, pa286, pb286, Land.V, hlc, hlh, hle, h12, h0h, h0e, ← hB]
        exact rest286 (XL := A.n) hL ⟨⟨hn, by omega⟩, ⟨hnh.1, by omega, hnh.2⟩, ⟨hne.1, by omega, hne.2⟩, by omega, rc, rh, re⟩ hm ⟨eB.rdS hat.1, eB.rdS hat.2⟩ (eB.rdS hc) (eB.rdS hh) (eB.rdS he) b0 (by omega) (by simp) (by simp) (by simp) (by simp) hV
end
end Go.Ab.Grid
set_option maxRecDepth 100000
namespace Go.Ab.Grid
open Go Go.Ab
def tLand : Ty := .pair (.int .u8) (.pair (.int .u8) (.pair (.slice (.int .i16)) (.pair (.slice (.int .u8)) .unit)))
theorem maxLen_lt : maxLen ≤ 9223372036854775807 := by decide
theorem sh_rowk {rows : List (List Value)} {k : IntKind} {cs : List Value} (h : Sh rows (.slice (.int k)) cs) :
    ∃ (n : Nat) (zs : List Int) (sl : Value), cs = [sl] ∧ RdS (roHp rows) 1 n (kints k zs) sl ∧ (zs.length = n ∧ n ≤ 9223372036854775807) ∧ ∀ z ∈ zs, k.min ≤ z ∧ z ≤ k.max := by
  obtain ⟨n, zs, sl, h1, r, m, b⟩ := sh_slice_k (k := k) (e := .int k) (by simp [allK]) h
  refine ⟨n, zs, sl, h1, r, ⟨?_, Nat.le_trans m maxLen_lt⟩, b⟩
  have := r.1
  rw [kints_length] at this
  simpa [Ty.size] using this
theorem sh_land {rows : List (List Value)} {cs : List Value} (h : Sh rows tLand cs) : ∃ (L : Land) (sl sm : Value), mkV tLand cs = L.V sl sm ∧ L.Ok ∧ L.At (roHp rows) sl sm := by
  obtain ⟨_, _, rfl, h1, ⟨_, _, rfl, h2, ⟨_, _, rfl, h3, ⟨_, _, rfl, h4, rfl⟩⟩⟩⟩ := h
  obtain ⟨a1, rfl, b1⟩ := sh_int h1
  obtain ⟨a2, rfl, b2⟩ := sh_int h2
  obtain ⟨n3, z3, s3, rfl, r3, l3, b3⟩ := sh_rowk h3
  obtain ⟨n4, z4, s4, rfl, r4, l4, b4⟩ := sh_rowk h4
  exact ⟨⟨a1, a2, n3, z3, n4, z4⟩, s3, s4, rfl, ⟨b1, b2, fun i => gi_rng b3 (by decide) (by decide) i, fun i => gi_rng b4 (by decide) (by decide) i, l3, l4⟩, r3, r4⟩
end Go.Ab.Grid
