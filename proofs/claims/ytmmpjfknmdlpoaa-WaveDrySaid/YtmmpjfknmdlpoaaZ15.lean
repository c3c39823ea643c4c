/- WaveDry: the law's walk, whole. -/
import Derived.Test.YtmmpjfknmdlpoaaZ14
set_option linter.unusedSimpArgs false
set_option linter.unusedVariables false
set_option linter.unusedSectionVars false
/- ref05.Dry; the comparison of two lists. -/
namespace Go.Ab.Wave
open Go Go.Ab

def body22 : ACode := (.seq
 (.seq
 (.ops [
⟨some 25, none, [], .move (.t 10)⟩,
⟨some 26, none, [], .move (.t 2)⟩,
⟨some 27, none, [], .len (.t 26)⟩,
⟨some 28, none, [], .bin .lss (.t 25) (.t 27)⟩])
 (.cond (.t 28)
 .skip
 (.exit 0)))
 (.seq
 (.block 1
 (.ops [
⟨some 31, none, [], .move (.t 9)⟩,
⟨some 32, none, [], .fieldAddr (.t 4) 1⟩,
⟨some 33, none, [], .load (.t 32) none⟩,
⟨some 34, none, [], .fieldAddr (.t 3) 3⟩,
⟨some 35, none, [], .load (.t 34) none⟩,
⟨some 36, none, [], .move (.t 10)⟩,
⟨some 37, none, [], .idxS (.t 35) (.t 36) 2⟩,
⟨some 38, none, [], .fieldAddr (.t 37) 0⟩,
⟨some 39, none, [], .load (.t 38) none⟩,
⟨some 40, none, [], .bin .sub (.t 33) (.t 39)⟩,
⟨some 41, none, [], .bin .leq (.t 40) (.k (.int .i64 0))⟩,
⟨some 42, none, [], .move (.t 41)⟩,
⟨some 43, (some (42, true)), [], .move (.t 2)⟩,
⟨some 44, (some (42, true)), [], .move (.t 10)⟩,
⟨some 45, (some (42, true)), [], .idxS (.t 43) (.t 44) 8⟩,
⟨some 46, (some (42, true)), [], .fieldAddr (.t 45) 2⟩,
⟨some 47, (some (42, true)), [], .fieldAddr (.t 46) 1⟩,
⟨some 48, (some (42, true)), [], .load (.t 47) none⟩,
⟨some 49, (some (42, true)), [], .bin .leq (.t 48) (.k (.int .i64 0))⟩,
⟨some 50, none, [], .pick (.t 42) (.t 49) (.k (.bool false))⟩,
⟨some 51, none, [], .slit 1 1 [.bool false] [(0, .t 50)]⟩,
⟨some 52, none, [], .append (.t 31) (.t 51) 1 1⟩,
⟨some 9, none, [], .move (.t 52)⟩]))
 (.ops [
⟨some 29, none, [], .move (.t 10)⟩,
⟨some 30, none, [], .bin .add (.t 29) (.k (.int .i64 1))⟩,
⟨some 10, none, [], .move (.t 30)⟩])))
def body23 : ACode := (.seq
 (.seq
 (.ops [
⟨some 11, none, [], .move (.t 5)⟩,
⟨some 12, none, [], .move (.t 0)⟩,
⟨some 13, none, [], .len (.t 12)⟩,
⟨some 14, none, [], .bin .lss (.t 11) (.t 13)⟩])
 (.cond (.t 14)
 .skip
 (.exit 0)))
 (.seq
 (.block 1
 (.seq
 (.ops [
⟨some 17, none, [], .move (.t 0)⟩,
⟨some 18, none, [], .move (.t 5)⟩,
⟨some 19, none, [], .idxS (.t 17) (.t 18) 1⟩,
⟨some 20, none, [], .load (.t 19) none⟩,
⟨some 21, none, [], .move (.t 1)⟩,
⟨some 22, none, [], .move (.t 5)⟩,
⟨some 23, none, [], .idxS (.t 21) (.t 22) 1⟩,
⟨some 24, none, [], .load (.t 23) none⟩,
⟨some 25, none, [], .beq true (.t 20) (.t 24)⟩])
 (.cond (.t 25)
 (.seq
 (.ops [
⟨some 4, none, [], .move (.k (.bool false))⟩])
 .ret)
 .skip)))
 (.ops [
⟨some 15, none, [], .move (.t 5)⟩,
⟨some 16, none, [], .bin .add (.t 15) (.k (.int .i64 1))⟩,
⟨some 5, none, [], .move (.t 16)⟩])))

section
variable {A0 : Hp} {G S n g : Nat} {sl lv : Value} {w hh s lo shi : Int} {gs zs : List Int} {rd : Option Nat} {D : List Nat} {Q : Ex → St → Prop}

theorem loop22 (hG : A0.get G = some (.cells [.int .i64 w, .int .i64 hh, .int .i64 s, sl] false)) (hS : A0.get S = some (.cells [.int .i64 lo, .int .i64 shi] false)) (hsl : RdS A0 2 n (ints gs) sl) (hl : RdS A0 8 n (ints zs) lv) (hn : n < 1000000) (hg : g ≤ A0.n)
    (hs1 : -20000 ≤ shi) (hs2 : shi ≤ 20000) (hgb : ∀ i, i < n → -1200000 ≤ gi gs (i * 2) ∧ gi gs (i * 2) ≤ 1200000)
    (hQ : ∀ T' A' sv', A0.n ≤ A'.n → (∀ x, x < A0.n → A'.get x = A0.get x) → AccS A0.n A' 1 (dryL shi gs zs n) sv' → tget T' 9 = sv' → Q (.exit 0) ⟨T', D, A'⟩) :
    ∀ (k i : Nat) (T : List Value) (A : Hp) (sv : Value), i + k = n → A0.n ≤ A.n → (∀ x, x < A0.n → A.get x = A0.get x) → AccS A0.n A 1 (dryL shi gs zs i) sv → tget T 3 = .pointer (some ⟨G, 0, none⟩) → tget T 4 = .pointer (some ⟨S, 0, none⟩) →
      tget T 9 = sv → tget T 2 = lv → tget T 10 = .int .i64 i → W AP KL g rd (.loop body22) ⟨T, D, A⟩ Q := by
  have hgl := hsl.1
  have hzl := hl.1
  have hlen := hl.len
  rw [ints_length] at hgl hzl
  intro k
  induction k with
  | zero =>
    intro i T A sv hi hn' hold hacc h3 h4 h9 h2 h10
    have : i = n := by omega
    subst this
    rw [W_loop]
    simp (disch := first | omega | (as_aux_lemma => simp only [Hp.n_push, Hp.n_set, List.length_cons, List.length_nil, ints_length, List.length_append]) | (as_aux_lemma => simp [isCell]) | (simp only [Hp.n_push, Hp.n_set, List.length_cons, List.length_nil, ints_length, List.length_append]; omega)) [get_push_eq, get_push_old, set_push_old, partA_all, takeMarks, resA, resAll, resOne, Value.cells, body22, h2, h10, hlen]
    exact hQ _ _ sv hn' hold hacc (by simp [h9])
  | succ k ih =>
    intro i T A sv hi hn' hold hacc h3 h4 h9 h2 h10
    have hsl' := hsl.mono hold
    have hl' := hl.mono hold
    have hG' := (hold G (Hp.lt_of_get hG)).trans hG
    have hS' := (hold S (Hp.lt_of_get hS)).trans hS
    obtain ⟨x, xc, xr, rfl, hx⟩ := hsl'.at (i := i) (by omega)
    obtain ⟨y, yc, yr, rfl, hy⟩ := hl'.at (i := i) (by omega)
    obtain ⟨b1, b2⟩ := hgb i (by omega)
    have key : ∀ b : Bool, b = dryB shi gs zs i → ∃ sv' A', appendA g (A.push (.cells [.bool b] false)) 1 1 sv (.slice (some ⟨A.n, 0, some 1⟩) 1 1) = some (sv', A') ∧ AccS A0.n A' 1 (dryL shi gs zs (i + 1)) sv' ∧
        (∀ x, x < A0.n → A'.get x = A0.get x) ∧ A0.n ≤ A'.n := fun b hb => by
      obtain ⟨sv', A', e, hacc', hold', hn''⟩ := hacc.add (g := g) (bytes := 1) (new := [.bool b]) (ro := false) (n := i) hg hn' rfl (by decide) rfl (by simp [dryL]) (by unfold room; omega)
      exact ⟨sv', A', e, by rw [dryL_succ, ← hb]; exact hacc', fun x hx => by rw [hold' x hx, hold x hx], by omega⟩
    rw [W_loop]
    by_cases h : shi - gi gs (i * 2) ≤ 0
    · obtain ⟨sv', A', e, hacc', hold', hn''⟩ := key (decide (gi zs (i * 8 + 3) ≤ 0)) (by simp [dryB, show shi ≤ gi gs (i * 2) by omega])
      simp (disch := first | omega | (as_aux_lemma => simp only [Hp.n_push, Hp.n_set, List.length_cons, List.length_nil, ints_length, List.length_append]) | (as_aux_lemma => simp [isCell]) | (simp only [Hp.n_push, Hp.n_set, List.length_cons, List.length_nil, ints_length, List.length_append]; omega)) [get_push_eq, get_push_old, set_push_old, partA_all, takeMarks, resA, resAll, resOne, Value.cells, body22, h3, h4, h9, h2, h10, hlen, show ((i : Int) < n) by omega, show i < n by omega, idxSA_ok, hx, hy, hG', hS', ints_get, wrId (n := shi - gi gs (i * 2)) (by omega) (by omega), h, slitA, fillA, setRange, e]
      exact ih (i + 1) _ A' sv' (by omega) hn'' hold' hacc' (by simp [h3]) (by simp [h4]) (by simp) (by simp [h2]) (by simp [wrId (n := (i : Int) + 1) (by omega) (by omega)])
    · obtain ⟨sv', A', e, hacc', hold', hn''⟩ := key false (by simp [dryB, show ¬ shi ≤ gi gs (i * 2) by omega])
      simp (disch := first | omega | (as_aux_lemma => simp only [Hp.n_push, Hp.n_set, List.length_cons, List.length_nil, ints_length, List.length_append]) | (as_aux_lemma => simp [isCell]) | (simp only [Hp.n_push, Hp.n_set, List.length_cons, List.length_nil, ints_length, List.length_append]; omega)) [get_push_eq, get_push_old, set_push_old, partA_all, takeMarks, resA, resAll, resOne, Value.cells, body22, h3, h4, h9, h2, h10, hlen, show ((i : Int) < n) by omega, show i < n by omega, idxSA_ok, hx, hy, hG', hS', ints_get, wrId (n := shi - gi gs (i * 2)) (by omega) (by omega), h, slitA, fillA, setRange, e]
      exact ih (i + 1) _ A' sv' (by omega) hn'' hold' hacc' (by simp [h3]) (by simp [h4]) (by simp) (by simp [h2]) (by simp [wrId (n := (i : Int) + 1) (by omega) (by omega)])

/-! ### bools: two lists that are the same -/

def bls (l : List Bool) : List Value := l.map .bool
theorem bls_get {l : List Bool} {i : Nat} (h : i < l.length) : cellAt (bls l) i = some (.bool (l.getD i false)) := by simp [bls, cellAt, h]

theorem loop23 {A : Hp} {l : List Bool} {va vb : Value} (ha : RdS A 1 n (bls l) va) (hb : RdS A 1 n (bls l) vb) (hn : n < 1000000)
    (hQ : ∀ T', Q (.exit 0) ⟨T', D, A⟩) :
    ∀ (k i : Nat) (T : List Value), i + k = n → tget T 0 = va → tget T 1 = vb → tget T 5 = .int .i64 i → W AP KL g rd (.loop body23) ⟨T, D, A⟩ Q := by
  have hl : l.length = n := by have := ha.1; simpa [bls] using this
  have hlen := ha.len
  intro k
  induction k with
  | zero =>
    intro i T hi h0 h1 h5
    rw [W_loop]
    simp (disch := first | omega | (as_aux_lemma => simp only [Hp.n_push, Hp.n_set, List.length_cons, List.length_nil, ints_length, List.length_append]) | (as_aux_lemma => simp [isCell]) | (simp only [Hp.n_push, Hp.n_set, List.length_cons, List.length_nil, ints_length, List.length_append]; omega)) [get_push_eq, get_push_old, set_push_old, partA_all, takeMarks, resA, resAll, resOne, Value.cells, body23, h0, h5, hlen, show ¬ ((i : Int) < n) by omega]
    exact hQ _
  | succ k ih =>
    intro i T hi h0 h1 h5
    obtain ⟨x, xc, xr, rfl, hx⟩ := ha.at (i := i) (by omega)
    obtain ⟨y, yc, yr, rfl, hy⟩ := hb.at (i := i) (by omega)
    rw [W_loop]
    simp (disch := first | omega | (as_aux_lemma => simp only [Hp.n_push, Hp.n_set, List.length_cons, List.length_nil, ints_length, List.length_append]) | (as_aux_lemma => simp [isCell]) | (simp only [Hp.n_push, Hp.n_set, List.length_cons, List.length_nil, ints_length, List.length_append]; omega)) [get_push_eq, get_push_old, set_push_old, partA_all, takeMarks, resA, resAll, resOne, Value.cells, body23, h0, h1, h5, show ((i : Int) < n) by omega, show i < n by omega, idxSA_ok, hx, hy, bls_get, hl]
    exact ih (i + 1) _ (by omega) (by simp [h0]) (by simp [h1]) (by simp [wrId (n := (i : Int) + 1) (by omega) (by omega)])

theorem w23 {A : Hp} {l : List Bool} {va vb : Value} {V : Value → Hp → Prop} (ha : RdS A 1 n (bls l) va) (hb : RdS A 1 n (bls l) vb) (hn : n < 1000000) (hQ : V (.bool true) A) : WF AP KL g 23 [va, vb] A V := by
  rw [WF_body rfl (show AP 23 = some F23 from rfl)]
  simp (disch := first | omega | (as_aux_lemma => simp only [Hp.n_push, Hp.n_set, List.length_cons, List.length_nil, ints_length, List.length_append]) | (as_aux_lemma => simp [isCell]) | (simp only [Hp.n_push, Hp.n_set, List.length_cons, List.length_nil, ints_length, List.length_append]; omega)) [get_push_eq, get_push_old, set_push_old, partA_all, takeMarks, resA, resAll, resOne, Value.cells, ha.len, hb.len]
  refine loop23 ha hb hn (fun T' => ?_) n 0 _ (by omega) (by simp) (by simp) (by simp)
  simp (disch := first | omega | (as_aux_lemma => simp only [Hp.n_push, Hp.n_set, List.length_cons, List.length_nil, ints_length, List.length_append]) | (as_aux_lemma => simp [isCell]) | (simp only [Hp.n_push, Hp.n_set, List.length_cons, List.length_nil, ints_length, List.length_append]; omega)) [get_push_eq, get_push_old, set_push_old, partA_all, takeMarks, resA, resAll, resOne, Value.cells, hQ]

end
end Go.Ab.Wave
/- WaveDry: the law's walk. -/
namespace Go.Ab.Wave
open Go Go.Ab

def body4 : ACode := (.seq
 (.seq
 (.ops [
⟨some 23, none, [], .move (.t 8)⟩,
⟨some 24, none, [], .move (.t 2)⟩,
⟨some 25, none, [], .len (.t 24)⟩,
⟨some 26, none, [], .bin .lss (.t 23) (.t 25)⟩])
 (.cond (.t 26)
 .skip
 (.exit 0)))
 (.seq
 (.block 1
 (.ops [
⟨some 29, none, [], .move (.t 7)⟩,
⟨some 30, none, [], .move (.t 2)⟩,
⟨some 31, none, [], .move (.t 8)⟩,
⟨some 32, none, [], .idxS (.t 30) (.t 31) 8⟩,
⟨some 33, none, [], .fieldAddr (.t 32) 0⟩,
⟨some 34, none, [], .load (.t 33) (some 2)⟩,
⟨some 35, none, [], .move (.t 2)⟩,
⟨some 36, none, [], .move (.t 8)⟩,
⟨some 37, none, [], .idxS (.t 35) (.t 36) 8⟩,
⟨some 38, none, [], .fieldAddr (.t 37) 2⟩,
⟨some 39, none, [], .load (.t 38) (some 2)⟩,
⟨some 40, none, [], .move (.t 2)⟩,
⟨some 41, none, [], .move (.t 8)⟩,
⟨some 42, none, [], .idxS (.t 40) (.t 41) 8⟩,
⟨some 43, none, [], .fieldAddr (.t 42) 4⟩,
⟨some 44, none, [], .load (.t 43) (some 2)⟩,
⟨some 45, none, [], .move (.t 2)⟩,
⟨some 46, none, [], .move (.t 8)⟩,
⟨some 47, none, [], .idxS (.t 45) (.t 46) 8⟩,
⟨some 48, none, [], .fieldAddr (.t 47) 6⟩,
⟨some 49, none, [], .load (.t 48) (some 2)⟩,
⟨some 50, none, [], .build [.int .i64 0, .int .i64 0, .int .i64 0, .int .i64 0, .int .i64 0, .int .i64 0, .int .i64 0, .int .i64 0] [(0, 2, .t 34), (2, 2, .t 39), (4, 2, .t 44), (6, 2, .t 49)]⟩,
⟨some 51, none, [], .slit 1 8 [.int .i64 0, .int .i64 0, .int .i64 0, .int .i64 0, .int .i64 0, .int .i64 0, .int .i64 0, .int .i64 0] [(0, .t 50)]⟩,
⟨some 52, none, [], .append (.t 29) (.t 51) 8 64⟩,
⟨some 7, none, [], .move (.t 52)⟩]))
 (.ops [
⟨some 27, none, [], .move (.t 8)⟩,
⟨some 28, none, [], .bin .add (.t 27) (.k (.int .i64 1))⟩,
⟨some 8, none, [], .move (.t 28)⟩])))

def flat2 (l : List (Int × Int)) : List Int := l.flatMap fun p => [p.1, p.2]
theorem cellsOf_flat : ∀ l : List (Int × Int), cellsOf l = ints (flat2 l)
  | [] => rfl
  | p :: l => by
    have e : cellsOf (p :: l) = J p.1 :: J p.2 :: cellsOf l := rfl
    rw [e, cellsOf_flat l]
    rfl
theorem flat2_length : ∀ l : List (Int × Int), (flat2 l).length = l.length * 2
  | [] => rfl
  | p :: l => by
    have e : flat2 (p :: l) = p.1 :: p.2 :: flat2 l := rfl
    rw [e, List.length_cons, List.length_cons, flat2_length l, List.length_cons]; omega
theorem flat2_lo : ∀ {l : List (Int × Int)} {i : Nat}, i < l.length → ∃ p, p ∈ l ∧ gi (flat2 l) (i * 2) = p.1 ∧ gi (flat2 l) (i * 2 + 1) = p.2
  | p :: l, 0, _ => ⟨p, by simp, rfl, rfl⟩
  | p :: l, i + 1, h => by
    obtain ⟨q, h1, h2, h3⟩ := flat2_lo (l := l) (i := i) (by simpa using h)
    refine ⟨q, by simp [h1], ?_, ?_⟩
    · rw [← h2, show (i + 1) * 2 = i * 2 + 2 by omega]; rfl
    · rw [← h3, show (i + 1) * 2 + 1 = i * 2 + 1 + 2 by omega]; rfl
theorem rd_ground {A : Hp} {sl : Value} {l : List (Int × Int)} (h : groundOf A sl = some l) : RdS A 2 l.length (ints (flat2 l)) sl := by
  refine ⟨by rw [ints_length, flat2_length], ?_⟩
  rcases (groundOf_cases h).2 with ⟨rfl, rfl⟩ | ⟨x, cap, ro, rfl, hx⟩
  · exact .inl ⟨rfl, rfl⟩
  · exact .inr ⟨x, cap, ro, rfl, by rw [← cellsOf_flat]; exact hx⟩

theorem ints_take {zs : List Int} {o k : Nat} (h : o + k ≤ zs.length) : ints (zs.take o) ++ cellsFrom zs o k = ints (zs.take (o + k)) := by
  have := ints_part h
  rw [partA_some (by rw [ints_length]; exact h)] at this
  have e : ((ints zs).drop o).take k = cellsFrom zs o k := by
    injection this with this
    injection this with this
    injection this
  rw [← e]
  simp only [ints, ← List.map_take, ← List.map_drop, ← List.map_append]
  rw [← List.take_add]

/-- A grid that has passed its check. -/
theorem check_ok {w h s : Int} {l : List (Int × Int)} (hc : checkG w h s l = 0) : ∀ p ∈ l, p.1 ≤ p.2 ∧ -1200000 ≤ p.1 ∧ p.2 ≤ 1200000 := by
  intro p hp
  unfold checkG at hc
  split at hc
  · cases hc
  · split at hc
    · cases hc
    · split at hc
      · cases hc
      · rename_i hb
        have hb' : l.any badSpan = false := by simpa using hb
        have := List.any_eq_false.1 hb' p hp
        simp only [badSpan_eq, Bool.or_eq_true, decide_eq_true_eq, not_or] at this
        omega

def dryErr (w hh s : Int) (l : List (Int × Int)) (lo shi : Int) (n : Nat) : Int :=
  if checkG w hh s l = 0 then (if inS lo shi (-20000) 20000 = true then (if n = l.length then 0 else 11) else 3) else checkG w hh s l
def dryRes (w hh s : Int) (l : List (Int × Int)) (lo shi : Int) (n : Nat) (zs : List Int) : List Value :=
  if dryErr w hh s l lo shi n = 0 then dryL shi (flat2 l) zs n else []
def spanV (a b : Int) : Value := .agg ⟨[.int .i64 a, .int .i64 b]⟩

section
variable {A : Hp} {n g : Nat} {sl lv : Value} {w hh s lo shi : Int} {l : List (Int × Int)} {zs : List Int} {V : Value → Hp → Prop}

theorem S42_eq' {a b c d : Int} : S42 g [.agg ⟨[.int .i64 a, .int .i64 b]⟩, .int .i64 c, .int .i64 d] A = some (.bool (inS a b c d), A) := rfl

theorem w21 (hl : groundOf A sl = some l) (hz : RdS A 8 n (ints zs) lv) (hn : n < 1000000) (hg : g ≤ A.n)
    (hQ : ∀ sv A', A.n ≤ A'.n → (∀ x, x < A.n → A'.get x = A.get x) → AccS A.n A' 1 (dryRes w hh s l lo shi n zs) sv → V (.tuple ⟨[sv, .int .i64 (dryErr w hh s l lo shi n)]⟩) A') :
    WF AP KL g 21 [gridV w hh s sl, spanV lo shi, lv] A V := by
  have hl1 := groundOf_push (b := .cells [.int .i64 lo, .int .i64 shi] false) (groundOf_push (b := .cells [.int .i64 w, .int .i64 hh, .int .i64 s, sl] false) hl)
  have hlen := (rd_ground hl).len
  rw [WF_body rfl (show AP 21 = some F21 from rfl)]
  by_cases h1 : checkG w hh s l = 0
  · by_cases h2 : inS lo shi (-20000) 20000 = true
    · by_cases h3 : n = l.length
      · have he : dryErr w hh s l lo shi n = 0 := by simp [dryErr, h1, h2, h3]
        simp (disch := first | omega | (as_aux_lemma => simp only [Hp.n_push, Hp.n_set, List.length_cons, List.length_nil, ints_length, List.length_append]) | (as_aux_lemma => simp [isCell]) | (simp only [Hp.n_push, Hp.n_set, List.length_cons, List.length_nil, ints_length, List.length_append]; omega)) [get_push_eq, get_push_old, set_push_old, partA_all, takeMarks, resA, resAll, resOne, Value.cells, gridV, spanV, J, WF_spec (show KL 37 = some S37 from rfl), S37_eq hl1, WF_spec (show KL 42 = some S42 from rfl), S42_eq', h1, h2, hz.len, hlen, show ((n : Int) = (l.length : Int)) by omega]
        refine loop21 (G := A.n) (S := A.n + 1) (n := n) (lv := lv) (gs := flat2 l) (zs := zs) (shi := shi) push2_a push2_b (by rw [h3]; exact (rd_ground hl).push.push) hz.push.push hn ?_ (fun T' A' sv' k1 k2 k3 k4 => ?_)
          n 0 _ _ (.slice none 0 0) (by omega) (Nat.le_refl _) (fun _ _ => rfl) AccS.nil ?_ ?_ ?_ ?_ ?_ ?_
        · exact Nat.le_trans hg (Nat.le_add_right A.n 2)
        · simp (disch := first | omega | (as_aux_lemma => simp only [Hp.n_push, Hp.n_set, List.length_cons, List.length_nil, ints_length, List.length_append]) | (as_aux_lemma => simp [isCell]) | (simp only [Hp.n_push, Hp.n_set, List.length_cons, List.length_nil, ints_length, List.length_append]; omega)) [get_push_eq, get_push_old, set_push_old, partA_all, takeMarks, resA, resAll, resOne, Value.cells, k4]
          rw [he] at hQ
          refine hQ sv' A' (Nat.le_trans (Nat.le_add_right A.n 2) k1) (fun x hx => ?_) ?_
          · rw [k2 x (Nat.lt_of_lt_of_le hx (Nat.le_add_right A.n 2)), push2_old hx]
          · unfold dryRes; rw [if_pos he]; exact k3.weaken (Nat.le_add_right A.n 2)
        all_goals simp [h3]
      · have he : dryErr w hh s l lo shi n = 11 := by simp [dryErr, h1, h2, h3]
        simp (disch := first | omega | (as_aux_lemma => simp only [Hp.n_push, Hp.n_set, List.length_cons, List.length_nil, ints_length, List.length_append]) | (as_aux_lemma => simp [isCell]) | (simp only [Hp.n_push, Hp.n_set, List.length_cons, List.length_nil, ints_length, List.length_append]; omega)) [get_push_eq, get_push_old, set_push_old, partA_all, takeMarks, resA, resAll, resOne, Value.cells, gridV, spanV, J, WF_spec (show KL 37 = some S37 from rfl), S37_eq hl1, WF_spec (show KL 42 = some S42 from rfl), S42_eq', h1, h2, hz.len, hlen, show ¬ ((n : Int) = (l.length : Int)) by omega]
        rw [he] at hQ
        refine hQ _ _ ?_ (fun x hx => ?_) (.inl ⟨rfl, ?_⟩)
        · exact Nat.le_add_right A.n 2
        · exact push2_old hx
        · unfold dryRes; rw [if_neg (by omega)]
    · have he : dryErr w hh s l lo shi n = 3 := by simp [dryErr, h1, h2]
      simp (disch := first | omega | (as_aux_lemma => simp only [Hp.n_push, Hp.n_set, List.length_cons, List.length_nil, ints_length, List.length_append]) | (as_aux_lemma => simp [isCell]) | (simp only [Hp.n_push, Hp.n_set, List.length_cons, List.length_nil, ints_length, List.length_append]; omega)) [get_push_eq, get_push_old, set_push_old, partA_all, takeMarks, resA, resAll, resOne, Value.cells, gridV, spanV, J, WF_spec (show KL 37 = some S37 from rfl), S37_eq hl1, WF_spec (show KL 42 = some S42 from rfl), S42_eq', h1, h2, hz.len, hlen]
      rw [he] at hQ
      refine hQ _ _ ?_ (fun x hx => ?_) (.inl ⟨rfl, ?_⟩)
      · exact Nat.le_add_right A.n 2
      · exact push2_old hx
      · unfold dryRes; rw [if_neg (by omega)]
  · have he : dryErr w hh s l lo shi n = checkG w hh s l := by simp [dryErr, h1]
    simp (disch := first | omega | (as_aux_lemma => simp only [Hp.n_push, Hp.n_set, List.length_cons, List.length_nil, ints_length, List.length_append]) | (as_aux_lemma => simp [isCell]) | (simp only [Hp.n_push, Hp.n_set, List.length_cons, List.length_nil, ints_length, List.length_append]; omega)) [get_push_eq, get_push_old, set_push_old, partA_all, takeMarks, resA, resAll, resOne, Value.cells, gridV, spanV, J, WF_spec (show KL 37 = some S37 from rfl), S37_eq hl1, h1]
    rw [he] at hQ
    refine hQ _ _ ?_ (fun x hx => ?_) (.inl ⟨rfl, ?_⟩)
    · exact Nat.le_add_right A.n 2
    · exact push2_old hx
    · unfold dryRes; rw [if_neg (by omega)]

end
end Go.Ab.Wave
/- WaveDry: the law's walk, to the end. -/
namespace Go.Ab.Wave
open Go Go.Ab

section
variable {A : Hp} {n g : Nat} {sl lv : Value} {w hh s lo shi : Int} {l : List (Int × Int)} {zs : List Int} {V : Value → Hp → Prop}

theorem w22 (hl : groundOf A sl = some l) (hz : RdS A 8 n (ints zs) lv) (hn : n < 1000000) (hg : g ≤ A.n)
    (hQ : ∀ sv A', A.n ≤ A'.n → (∀ x, x < A.n → A'.get x = A.get x) → AccS A.n A' 1 (dryRes w hh s l lo shi n zs) sv → V (.tuple ⟨[sv, .int .i64 (dryErr w hh s l lo shi n)]⟩) A') :
    WF AP KL g 22 [gridV w hh s sl, spanV lo shi, lv] A V := by
  have hl1 := groundOf_push (b := .cells [.int .i64 lo, .int .i64 shi] false) (groundOf_push (b := .cells [.int .i64 w, .int .i64 hh, .int .i64 s, sl] false) hl)
  have hlen := (rd_ground hl).len
  rw [WF_body rfl (show AP 22 = some F22 from rfl)]
  by_cases h1 : checkG w hh s l = 0
  · by_cases h2 : inS lo shi (-20000) 20000 = true
    · by_cases h3 : n = l.length
      · have he : dryErr w hh s l lo shi n = 0 := by simp [dryErr, h1, h2, h3]
        have h2' := h2
        simp only [inS, Bool.and_eq_true, decide_eq_true_eq] at h2'
        simp (disch := first | omega | (as_aux_lemma => simp only [Hp.n_push, Hp.n_set, List.length_cons, List.length_nil, ints_length, List.length_append]) | (as_aux_lemma => simp [isCell]) | (simp only [Hp.n_push, Hp.n_set, List.length_cons, List.length_nil, ints_length, List.length_append]; omega)) [get_push_eq, get_push_old, set_push_old, partA_all, takeMarks, resA, resAll, resOne, Value.cells, gridV, spanV, J, WF_spec (show KL 40 = some S37 from rfl), S37_eq hl1, WF_spec (show KL 43 = some S42 from rfl), S42_eq', h1, h2, hz.len, hlen, show ((n : Int) = (l.length : Int)) by omega]
        refine loop22 (G := A.n) (S := A.n + 1) (n := n) (lv := lv) (gs := flat2 l) (zs := zs) (shi := shi) push2_a push2_b (by rw [h3]; exact (rd_ground hl).push.push) hz.push.push hn ?_ (by omega) (by omega) ?_ (fun T' A' sv' k1 k2 k3 k4 => ?_)
          n 0 _ _ (.slice none 0 0) (by omega) (Nat.le_refl _) (fun _ _ => rfl) AccS.nil ?_ ?_ ?_ ?_ ?_
        · exact Nat.le_trans hg (Nat.le_add_right A.n 2)
        · intro i hi
          obtain ⟨p, hp, e1, _⟩ := flat2_lo (l := l) (i := i) (by omega)
          have := check_ok h1 p hp
          rw [e1]; omega
        · simp (disch := first | omega | (as_aux_lemma => simp only [Hp.n_push, Hp.n_set, List.length_cons, List.length_nil, ints_length, List.length_append]) | (as_aux_lemma => simp [isCell]) | (simp only [Hp.n_push, Hp.n_set, List.length_cons, List.length_nil, ints_length, List.length_append]; omega)) [get_push_eq, get_push_old, set_push_old, partA_all, takeMarks, resA, resAll, resOne, Value.cells, k4]
          rw [he] at hQ
          refine hQ sv' A' (Nat.le_trans (Nat.le_add_right A.n 2) k1) (fun x hx => ?_) ?_
          · rw [k2 x (Nat.lt_of_lt_of_le hx (Nat.le_add_right A.n 2)), push2_old hx]
          · unfold dryRes; rw [if_pos he]; exact k3.weaken (Nat.le_add_right A.n 2)
        all_goals simp [h3]
      · have he : dryErr w hh s l lo shi n = 11 := by simp [dryErr, h1, h2, h3]
        simp (disch := first | omega | (as_aux_lemma => simp only [Hp.n_push, Hp.n_set, List.length_cons, List.length_nil, ints_length, List.length_append]) | (as_aux_lemma => simp [isCell]) | (simp only [Hp.n_push, Hp.n_set, List.length_cons, List.length_nil, ints_length, List.length_append]; omega)) [get_push_eq, get_push_old, set_push_old, partA_all, takeMarks, resA, resAll, resOne, Value.cells, gridV, spanV, J, WF_spec (show KL 40 = some S37 from rfl), S37_eq hl1, WF_spec (show KL 43 = some S42 from rfl), S42_eq', h1, h2, hz.len, hlen, show ¬ ((n : Int) = (l.length : Int)) by omega]
        rw [he] at hQ
        refine hQ _ _ ?_ (fun x hx => ?_) (.inl ⟨rfl, ?_⟩)
        · exact Nat.le_add_right A.n 2
        · exact push2_old hx
        · unfold dryRes; rw [if_neg (by omega)]
    · have he : dryErr w hh s l lo shi n = 3 := by simp [dryErr, h1, h2]
      simp (disch := first | omega | (as_aux_lemma => simp only [Hp.n_push, Hp.n_set, List.length_cons, List.length_nil, ints_length, List.length_append]) | (as_aux_lemma => simp [isCell]) | (simp only [Hp.n_push, Hp.n_set, List.length_cons, List.length_nil, ints_length, List.length_append]; omega)) [get_push_eq, get_push_old, set_push_old, partA_all, takeMarks, resA, resAll, resOne, Value.cells, gridV, spanV, J, WF_spec (show KL 40 = some S37 from rfl), S37_eq hl1, WF_spec (show KL 43 = some S42 from rfl), S42_eq', h1, h2, hz.len, hlen]
      rw [he] at hQ
      refine hQ _ _ ?_ (fun x hx => ?_) (.inl ⟨rfl, ?_⟩)
      · exact Nat.le_add_right A.n 2
      · exact push2_old hx
      · unfold dryRes; rw [if_neg (by omega)]
  · have he : dryErr w hh s l lo shi n = checkG w hh s l := by simp [dryErr, h1]
    simp (disch := first | omega | (as_aux_lemma => simp only [Hp.n_push, Hp.n_set, List.length_cons, List.length_nil, ints_length, List.length_append]) | (as_aux_lemma => simp [isCell]) | (simp only [Hp.n_push, Hp.n_set, List.length_cons, List.length_nil, ints_length, List.length_append]; omega)) [get_push_eq, get_push_old, set_push_old, partA_all, takeMarks, resA, resAll, resOne, Value.cells, gridV, spanV, J, WF_spec (show KL 40 = some S37 from rfl), S37_eq hl1, h1]
    rw [he] at hQ
    refine hQ _ _ ?_ (fun x hx => ?_) (.inl ⟨rfl, ?_⟩)
    · exact Nat.le_add_right A.n 2
    · exact push2_old hx
    · unfold dryRes; rw [if_neg (by omega)]

theorem loop4 {A0 : Hp} {T0 : List Value} {rd : Option Nat} {D : List Nat} {Q : Ex → St → Prop} (hl : RdS A0 8 n (ints zs) lv) (hn : n < 1000000) (hg : g ≤ A0.n)
    (hQ : ∀ T' A' sv', A0.n ≤ A'.n → (∀ x, x < A0.n → A'.get x = A0.get x) → AccS A0.n A' 8 (ints zs) sv' → (∀ i, i = 2 ∨ i = 3 ∨ i = 4 → tget T' i = tget T0 i) → tget T' 7 = sv' → Q (.exit 0) ⟨T', D, A'⟩) :
    ∀ (k i : Nat) (T : List Value) (A : Hp) (sv : Value), i + k = n → A0.n ≤ A.n → (∀ x, x < A0.n → A.get x = A0.get x) → AccS A0.n A 8 (ints (zs.take (i * 8))) sv → (∀ i, i = 2 ∨ i = 3 ∨ i = 4 → tget T i = tget T0 i) → tget T0 2 = lv →
      tget T 7 = sv → tget T 8 = .int .i64 i → W AP KL g rd (.loop body4) ⟨T, D, A⟩ Q := by
  have hzl := hl.1
  have hlen := hl.len
  rw [ints_length] at hzl
  intro k
  induction k with
  | zero =>
    intro i T A sv hi hn' hold hacc ht h2 h7 h8
    have : i = n := by omega
    subst this
    have h2' := (ht 2 (by omega)).trans h2
    rw [W_loop]
    simp (disch := first | omega | (as_aux_lemma => simp only [Hp.n_push, Hp.n_set, List.length_cons, List.length_nil, ints_length, List.length_append]) | (as_aux_lemma => simp [isCell]) | (simp only [Hp.n_push, Hp.n_set, List.length_cons, List.length_nil, ints_length, List.length_append]; omega)) [get_push_eq, get_push_old, set_push_old, partA_all, takeMarks, resA, resAll, resOne, Value.cells, body4, h2', h8, hlen]
    refine hQ _ _ sv hn' hold (by rw [← hzl, List.take_length] at hacc; exact hacc) (fun i hi => ?_) (by simp [h7])
    rcases hi with rfl | rfl | rfl <;> simp [ht]
  | succ k ih =>
    intro i T A sv hi hn' hold hacc ht h2 h7 h8
    have hl' := hl.mono hold
    have h2' := (ht 2 (by omega)).trans h2
    obtain ⟨y, yc, yr, rfl, hy⟩ := hl'.at (i := i) (by omega)
    obtain ⟨sv', A', e, hacc', hold', hn''⟩ := hacc.add (g := g) (bytes := 64) (new := [.int .i64 (gi zs (i * 8)), .int .i64 (gi zs (i * 8 + 1)), .int .i64 (gi zs (i * 8 + 2)), .int .i64 (gi zs (i * 8 + 3)), .int .i64 (gi zs (i * 8 + 4)), .int .i64 (gi zs (i * 8 + 5)), .int .i64 (gi zs (i * 8 + 6)), .int .i64 (gi zs (i * 8 + 7))]) (ro := false) (n := i) hg hn' rfl (by decide) rfl (by rw [ints_length, List.length_take]; omega) (by unfold room; omega)
    have hacc2 : AccS A0.n A' 8 (ints (zs.take ((i + 1) * 8))) sv' := by
      rw [show (i + 1) * 8 = i * 8 + 8 by omega, ← ints_take (by omega)]
      exact hacc'
    rw [W_loop]
    simp (disch := first | omega | (as_aux_lemma => simp only [Hp.n_push, Hp.n_set, List.length_cons, List.length_nil, ints_length, List.length_append]) | (as_aux_lemma => simp [isCell]) | (simp only [Hp.n_push, Hp.n_set, List.length_cons, List.length_nil, ints_length, List.length_append]; omega)) [get_push_eq, get_push_old, set_push_old, partA_all, takeMarks, resA, resAll, resOne, Value.cells, body4, h2', h7, h8, hlen, show ((i : Int) < n) by omega, show i < n by omega, idxSA_ok, hy, ints_two, Nat.add_assoc, slitA, fillA, setRange, e]
    trace_state
    refine ih (i + 1) _ A' sv' (by omega) (by omega) (fun x hx => by rw [hold' x hx, hold x hx]) hacc2 (fun i hi => ?_) h2 (by simp) (by simp [wrId (n := (i : Int) + 1) (by omega) (by omega)])
    rcases hi with rfl | rfl | rfl <;> simp [ht]

end
end Go.Ab.Wave
namespace Go.Ab.Wave
open Go Go.Ab

section
variable {A : Hp} {n g : Nat} {sl lv : Value} {w hh s lo shi : Int} {l : List (Int × Int)} {zs : List Int} {V : Value → Hp → Prop}

theorem dryRes_bls : ∃ bs : List Bool, dryRes w hh s l lo shi n zs = bls bs ∧ bs.length ≤ n := by
  unfold dryRes
  split
  · exact ⟨(List.range n).map fun i => dryB shi (flat2 l) zs i, by simp [dryL, bls], by simp⟩
  · exact ⟨[], rfl, by simp⟩

theorem w4 (hl : groundOf A sl = some l) (hz : RdS A 8 n (ints zs) lv) (hg : g ≤ A.n) (hQ : ∀ A', V (.bool true) A') : WF AP KL g 4 [gridV w hh s sl, spanV lo shi, lv] A V := by
  have hlen := (rd_ground hl).len
  rw [WF_body rfl (show AP 4 = some F4 from rfl)]
  by_cases h1 : l.length ≤ 100
  · by_cases h2 : n ≤ 110
    · simp (disch := first | omega | (as_aux_lemma => simp only [Hp.n_push, Hp.n_set, List.length_cons, List.length_nil, ints_length, List.length_append]) | (as_aux_lemma => simp [isCell]) | (simp only [Hp.n_push, Hp.n_set, List.length_cons, List.length_nil, ints_length, List.length_append]; omega)) [get_push_eq, get_push_old, set_push_old, partA_all, takeMarks, resA, resAll, resOne, Value.cells, gridV, spanV, J, hlen, hz.len, show ¬ ((100 : Int) < l.length) by omega, show ¬ ((110 : Int) < n) by omega]
      refine loop4 (n := n) (lv := lv) (zs := zs) hz.push.push (by omega) (Nat.le_trans hg (Nat.le_add_right A.n 2)) (fun T' A' sv' k1 k2 k3 k4 k5 => ?_) n 0 _ _ (.slice none 0 0) (by omega) (Nat.le_refl _) (fun _ _ => rfl) (by simp [ints]; exact AccS.nil) (fun _ _ => rfl) ?_ ?_ ?_
      · have q2 := k4 2 (by omega)
        have q3 := k4 3 (by omega)
        have q4 := k4 4 (by omega)
        simp at q2 q3 q4
        have a0 := (k2 A.n (by rw [push2_n]; omega)).trans push2_a
        have a1 := (k2 (A.n + 1) (by rw [push2_n]; omega)).trans push2_b
        have hz' : RdS A' 8 n (ints zs) lv := hz.push.push.mono k2
        have hp' : RdS A' 8 n (ints zs) sv' := k3.rd hz.1 (by decide)
        have hl' : groundOf A' sl = some l := groundOf_mono (groundOf_push (groundOf_push hl)) k2
        rw [push2_n] at k1
        simp (disch := first | omega | (as_aux_lemma => simp only [Hp.n_push, Hp.n_set, List.length_cons, List.length_nil, ints_length, List.length_append]) | (as_aux_lemma => simp [isCell]) | (simp only [Hp.n_push, Hp.n_set, List.length_cons, List.length_nil, ints_length, List.length_append]; omega)) [get_push_eq, get_push_old, set_push_old, partA_all, takeMarks, resA, resAll, resOne, Value.cells, q2, q3, q4, k5, a0, a1]
        refine w21 hl' hp' (by omega) (by omega) fun va B m1 m2 m3 => ?_
        have b0 := (m2 A.n (by omega)).trans a0
        have b1 := (m2 (A.n + 1) (by omega)).trans a1
        simp (disch := first | omega | (as_aux_lemma => simp only [Hp.n_push, Hp.n_set, List.length_cons, List.length_nil, ints_length, List.length_append]) | (as_aux_lemma => simp [isCell]) | (simp only [Hp.n_push, Hp.n_set, List.length_cons, List.length_nil, ints_length, List.length_append]; omega)) [get_push_eq, get_push_old, set_push_old, partA_all, takeMarks, resA, resAll, resOne, Value.cells, q2, q3, q4, k5, b0, b1]
        refine w22 (groundOf_mono hl' m2) (hz'.mono m2) (by omega) (by omega) fun vb C o1 o2 o3 => ?_
        obtain ⟨bs, hb, hbl⟩ := dryRes_bls (w := w) (hh := hh) (s := s) (l := l) (lo := lo) (shi := shi) (n := n) (zs := zs)
        have ha := ((hb ▸ m3).mono o2).rd (n := bs.length) (by simp [bls]) (by decide)
        have hb' := (hb ▸ o3).rd (n := bs.length) (by simp [bls]) (by decide)
        simp (disch := first | omega | (as_aux_lemma => simp only [Hp.n_push, Hp.n_set, List.length_cons, List.length_nil, ints_length, List.length_append]) | (as_aux_lemma => simp [isCell]) | (simp only [Hp.n_push, Hp.n_set, List.length_cons, List.length_nil, ints_length, List.length_append]; omega)) [get_push_eq, get_push_old, set_push_old, partA_all, takeMarks, resA, resAll, resOne, Value.cells, ]
        refine w23 ha hb' (by omega) ?_
        simp (disch := first | omega | (as_aux_lemma => simp only [Hp.n_push, Hp.n_set, List.length_cons, List.length_nil, ints_length, List.length_append]) | (as_aux_lemma => simp [isCell]) | (simp only [Hp.n_push, Hp.n_set, List.length_cons, List.length_nil, ints_length, List.length_append]; omega)) [get_push_eq, get_push_old, set_push_old, partA_all, takeMarks, resA, resAll, resOne, Value.cells, WF_spec (show KL 10 = some (memoSpec [mWorks]) from rfl), works_eq, hQ]
      all_goals simp
    · simp (disch := first | omega | (as_aux_lemma => simp only [Hp.n_push, Hp.n_set, List.length_cons, List.length_nil, ints_length, List.length_append]) | (as_aux_lemma => simp [isCell]) | (simp only [Hp.n_push, Hp.n_set, List.length_cons, List.length_nil, ints_length, List.length_append]; omega)) [get_push_eq, get_push_old, set_push_old, partA_all, takeMarks, resA, resAll, resOne, Value.cells, gridV, spanV, J, hlen, hz.len, show ¬ ((100 : Int) < l.length) by omega, show ((110 : Int) < n) by omega, WF_spec (show KL 10 = some (memoSpec [mWorks]) from rfl), works_eq, hQ]
  · simp (disch := first | omega | (as_aux_lemma => simp only [Hp.n_push, Hp.n_set, List.length_cons, List.length_nil, ints_length, List.length_append]) | (as_aux_lemma => simp [isCell]) | (simp only [Hp.n_push, Hp.n_set, List.length_cons, List.length_nil, ints_length, List.length_append]; omega)) [get_push_eq, get_push_old, set_push_old, partA_all, takeMarks, resA, resAll, resOne, Value.cells, gridV, spanV, J, hlen, hz.len, show ((100 : Int) < l.length) by omega, WF_spec (show KL 10 = some (memoSpec [mWorks]) from rfl), works_eq, hQ]

end
end Go.Ab.Wave
