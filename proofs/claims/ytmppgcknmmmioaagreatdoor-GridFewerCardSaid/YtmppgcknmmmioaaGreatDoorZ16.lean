/- The grids of the laws by numbers. -/
import Derived.Test.YtmppgcknmmmioaaGreatDoorZ15
import Derived.Test.YtmppgcknmmmioaaGreatDoorZ13
import Derived.Test.YtmppgcknmmmioaaGreatDoorZ14
set_option linter.unusedSimpArgs false
set_option linter.unusedVariables false
set_option linter.unusedSectionVars false
set_option maxRecDepth 100000
namespace Go.Ab.Grid
open Go Go.Ab
def ptrV (x : Nat) : Value := .pointer (some ⟨x, 0, none⟩)
section
variable {g : Nat} {A : Hp} {V : Value → Hp → Prop}
structure N73 (g : Nat) (A0 : Hp) (w h c : Int) (b : Nat) (N : Nat) (l : List Int) (T : List Value) (A : Hp) : Prop where
  acc : ∃ sv, tget T 5 = sv ∧ AccS N A 1 (ints l) sv
  old : ∀ x, x < N → A.get x = A0.get x
  n : N ≤ A.n
  t1 : tget T 1 = .int .i64 c
  t2 : tget T 2 = ptrV b
  t6 : tget T 6 = .int .i64 (c.tmod w)
  t7 : tget T 7 = .int .i64 (c.tdiv w)
  len : l.length < 10
theorem N73.add {A0 : Hp} {w h c : Int} {b N : Nat} {l : List Int} {T : List Value} (hN : N73 g A0 w h c b N l T A) (hg : g ≤ N) (z : Int) :
    ∃ sv sv' A', tget T 5 = sv ∧ appendA g (A.push (.cells [.int .i64 z] false)) 1 8 sv (.slice (some ⟨A.n, 0, some 1⟩) 1 1) = some (sv', A') ∧ AccS N A' 1 (ints (l ++ [z])) sv' ∧ (∀ x, x < N → A'.get x = A0.get x) ∧ N ≤ A'.n := by
  obtain ⟨sv, h5, hacc⟩ := hN.acc
  have hl := hN.len
  obtain ⟨sv', A', e, h1, h2, h3⟩ := hacc.add (g := g) (bytes := 8) (new := [.int .i64 z]) (ro := false) (n := l.length) hg hN.n rfl (by decide) rfl (by simp) (by unfold room; omega)
  refine ⟨sv, sv', A', h5, e, ?_, fun x hx => by rw [h2 x hx, hN.old x hx], by have := hN.n; omega⟩
  rw [ints_append]; exact h1
end
end Go.Ab.Grid
set_option maxRecDepth 100000
namespace Go.Ab.Grid
open Go Go.Ab
def asg113 : ACode := (.ops [oM 5 7])
def body113 : ACode := (.block 1
 (.ops [
oL 8 2,
oM 9 5,
oP 10 (.slit 1 1 [.int .i64 0] [(0, .t 9)]),
oP 11 (.append (.t 8) (.t 10) 1 8),
oT 2 11 1]))
structure NbP (A0 : Hp) (T1 : List Value) (done : List Int) (A : Hp) : Prop where
  e : Ext' A0 A
  n : A0.n + 4 ≤ A.n
  m : A.get (A0.n + 1) = some .marks
  l : A.get (A0.n + 2) = some (recL T1 [7] asg113 body113)
  r : A.get (A0.n + 3) = some (.cells (ints dirI) false)
  s : ∃ sv, A.get A0.n = some (.cells [sv] false) ∧ AccS (A0.n + 4) A 1 (ints done) sv
theorem NbP.push {A0 A : Hp} {T1 : List Value} {done : List Int} (h : NbP A0 T1 done A) (b : ABlk) : NbP A0 T1 done (A.push b) := by
  obtain ⟨e, n, m, l, r, sv, s1, s2⟩ := h
  have k := Ext'.push A b
  exact ⟨e.trans k, by simp; omega, k.get m, k.get l, k.get r, sv, k.get s1, s2.mono k.2⟩
section
variable {g : Nat} {rd : Option Nat} {T : List Value} {D : List Nat} {A : Hp} {Q : Ex → St → Prop} {V : Value → Hp → Prop}
end
end Go.Ab.Grid
set_option maxRecDepth 100000
namespace Go.Ab.Grid
open Go Go.Ab
theorem _root_.Go.Ab.AccS.rdS {N : Nat} {A : Hp} {k : Nat} {cs : List Value} {sv : Value} (h : AccS N A k cs sv) : ∃ n, RdS A k n cs sv := by
  rcases h with ⟨rfl, rfl⟩ | ⟨b, n, rfl, h2, _, h4, _⟩
  · exact ⟨0, by simp, .inl ⟨rfl, rfl⟩⟩
  · exact ⟨n, h4, .inr ⟨b, n, false, rfl, h2⟩⟩
theorem list_gi {a b : List Int} (h : a.length = b.length) (hx : ∀ i, i < a.length → gi a i = gi b i) : a = b := by
  apply List.ext_getElem h
  intro i h1 h2
  have := hx i h1
  simpa [gi, List.getD, h1, h2] using this
section
variable {g : Nat} {rd : Option Nat} {T : List Value} {D : List Nat} {A : Hp} {Q : Ex → St → Prop} {V : Value → Hp → Prop}
end
end Go.Ab.Grid
set_option maxRecDepth 100000
namespace Go.Ab.Grid
open Go Go.Ab
structure G where
  w : Int
  h : Int
  s : Int
  m : Nat
  zs : List Int
def G0 : G := ⟨0, 0, 0, 0, []⟩
def G.E (x : G) : Int := gridE x.w x.h x.s x.m x.zs
def GAt (A : Hp) (x : G) (v : Value) : Prop := ∃ sl, v = gridV x.w x.h x.s sl ∧ RdS A 2 x.m (ints x.zs) sl
theorem GAt.mono {A A' : Hp} {x : G} {v : Value} (h : GAt A x v) (e : Ext' A A') : GAt A' x v := by
  obtain ⟨sl, h1, h2⟩ := h; exact ⟨sl, h1, e.rdS h2⟩
theorem GAt.zero {A : Hp} : GAt A G0 (gridV 0 0 0 (.slice none 0 0)) := ⟨_, rfl, by simp [G0, ints], .inl ⟨rfl, rfl⟩⟩
theorem eqv2 {a b a' b' : Int} : eqvA true [false, false] (.agg ⟨[.int .i64 a, .int .i64 b]⟩) (.agg ⟨[.int .i64 a', .int .i64 b']⟩) = some (.bool (!(decide (a = a') && decide (b = b')))) := by
  simp [eqvA, eqCells, cellEq, kEq]
  rfl
theorem copy_fresh {g k bytes m : Nat} {A : Hp} {cs : List Value} {src : Value} (h : RdS A k m cs src) (hcell : cs.all isCell = true) (hg : g ≤ A.n) (hk : 0 < k) (hr : m * bytes ≤ room ∧ m ≤ room) :
    ∃ Y c A', appendA g (A.push (.cells [] false)) k bytes (.slice (some ⟨A.n, 0, some k⟩) 0 0) src = some (.slice (some ⟨Y, 0, some k⟩) m c, A') ∧ Ext' A A' ∧ A'.get Y = some (.cells cs false) ∧ A.n ≤ Y := by
  have e1 := Ext'.push A (.cells [] false)
  have hc := (h.push (x := .cells [] false)).cellsAt
  obtain ⟨p, c, rfl⟩ : ∃ p c, src = .slice p m c := by rcases h with ⟨_, ⟨rfl, rfl⟩ | ⟨_, _, _, rfl, _⟩⟩ <;> exact ⟨_, _, rfl⟩
  unfold appendA
  simp only [hc]
  rw [if_pos ⟨hcell, hk⟩]
  by_cases hm : m = 0
  · subst hm
    rw [if_pos rfl]
    refine ⟨_, _, _, rfl, e1, ?_, Nat.le_refl _⟩
    have : cs = [] := List.eq_nil_of_length_eq_zero (by have := h.1; simpa using this)
    rw [get_push_new, this]
  · rw [if_neg hm]
    simp only [get_push_new]
    rw [if_pos ⟨hg, by simpa using hr.1, by simpa using hr.2, trivial⟩, if_pos (by simp)]
    refine ⟨A.n + 1, m, ((A.push (.cells [] false)).set A.n none).push (.cells cs false), by simp, ⟨by simp; omega, fun z hz => ?_⟩, by rw [get_push_eq (by simp)], by omega⟩
    rw [get_push_old (by simp; omega), get_set_ne (by simp) (by omega), get_push_old hz]
section
variable {g : Nat} {rd : Option Nat} {T : List Value} {D : List Nat} {A : Hp} {Q : Ex → St → Prop} {V : Value → Hp → Prop}
theorem loop294 {n : Nat} {a b : List Int} {x y : Value} (ha : RdS A 2 n (ints a) x) (hb : RdS A 2 n (ints b) y) (hn : n < 1000000)
    (hQ : ∀ T', a = b → Q (.exit 0) ⟨T', D, A⟩) (hR : ∀ T', a ≠ b → tget T' 4 = .bool false → Q .ret ⟨T', D, A⟩) :
    ∀ (k i : Nat) {T : List Value}, i + k = n → (∀ j, j < i * 2 → gi a j = gi b j) → tget T 0 = x → tget T 1 = y → tget T 5 = .int .i64 i → W AP KL g rd (.loop body294) ⟨T, D, A⟩ Q := by
  intro k
  have la : a.length = n * 2 := by have := ha.1; simpa using this
  have lb : b.length = n * 2 := by have := hb.1; simpa using this
  have hl := ha.len
  induction k with
  | zero =>
    intro i T hi hp t0 t1 t5
    rw [W_loop]
    simp (disch := as_aux_lemma => first | omega | simp only [hDs] <;> omega | simp [isCell]) [hRs, takeMarks, resA, resAll, resOne, Value.cells, body294, t0, t1, t5, hl, show ¬ ((i : Int) < n) by omega]
    exact hQ _ (list_gi (by omega) fun j hj => hp j (by omega))
  | succ k ih =>
    intro i T hi hp t0 t1 t5
    have e5 : wr .i64 ((i : Int) + 1) = ((i + 1 : Nat) : Int) := by rw [wrId (by omega) (by omega)]; simp
    obtain ⟨xb, xc, xr, rfl, hxb⟩ := ha.at (show i < n by omega)
    obtain ⟨yb, yc, yr, rfl, hyb⟩ := hb.at (show i < n by omega)
    rw [W_loop]
    by_cases he : gi a (i * 2) = gi b (i * 2) ∧ gi a (i * 2 + 1) = gi b (i * 2 + 1)
    · simp (disch := as_aux_lemma => first | omega | simp only [hDs] <;> omega | simp [isCell]) [hRs, takeMarks, resA, resAll, resOne, Value.cells, body294, t0, t1, t5, hl, show ((i : Int) < n) by omega, show i < n by omega, idxSA_ok, hxb, hyb, ints_two, la, lb, he.1, he.2, e5, eqv2]
      refine ih (i + 1) (by omega) (fun j hj => ?_) ?_ ?_ ?_
      · by_cases h : j = i * 2
        · rw [h]; exact he.1
        · by_cases h' : j = i * 2 + 1
          · rw [h']; exact he.2
          · exact hp j (by omega)
      all_goals simp [t0, t1]
    · have hne : a ≠ b := fun h => he (by rw [h]; exact ⟨rfl, rfl⟩)
      have hd : (decide (gi a (i * 2) = gi b (i * 2)) && decide (gi a (i * 2 + 1) = gi b (i * 2 + 1))) = false := by simpa using he
      have hd' : (!decide (gi a (i * 2) = gi b (i * 2)) || !decide (gi a (i * 2 + 1) = gi b (i * 2 + 1))) = true := by rw [← Bool.not_and, hd]; rfl
      simp (disch := as_aux_lemma => first | omega | simp only [hDs] <;> omega | simp [isCell]) [hRs, takeMarks, resA, resAll, resOne, Value.cells, body294, t0, t1, t5, hl, show ((i : Int) < n) by omega, show i < n by omega, idxSA_ok, hxb, hyb, ints_two, la, lb, hd, hd', e5, eqv2]
      exact hR _ hne (by simp)
theorem w294 {na nb : Nat} {a b : List Int} {x y : Value} (ha : RdS A 2 na (ints a) x) (hb : RdS A 2 nb (ints b) y) (hn : na < 1000000) (hV : V (.bool (decide (a = b))) A) : WF AP KL g 294 [x, y] A V := by
  rw [WF_body (show KL 294 = none from rfl) (show AP 294 = some F294 from rfl)]
  have la : a.length = na * 2 := by have := ha.1; simpa using this
  have lb : b.length = nb * 2 := by have := hb.1; simpa using this
  have h1 := ha.len
  have h2 := hb.len
  by_cases he : na = nb
  · subst he
    simp (disch := as_aux_lemma => first | omega | simp only [hDs] <;> omega | simp [isCell]) [hRs, takeMarks, resA, resAll, resOne, Value.cells, F294, h1, h2]
    refine loop294 ha hb hn (fun T' he' => ?_) (fun T' he' t4 => ?_) na 0 (by omega) (fun j hj => by omega) ?_ ?_ ?_
    · simp (disch := as_aux_lemma => first | omega | simp only [hDs] <;> omega | simp [isCell]) [hRs, takeMarks, resA, resAll, resOne, Value.cells, he']
      simpa [he'] using hV
    · simp (disch := as_aux_lemma => first | omega | simp only [hDs] <;> omega | simp [isCell]) [hRs, takeMarks, resA, resAll, resOne, Value.cells, t4]
      simpa [he'] using hV
    all_goals simp
  · simp (disch := as_aux_lemma => first | omega | simp only [hDs] <;> omega | simp [isCell]) [hRs, takeMarks, resA, resAll, resOne, Value.cells, F294, h1, h2, show ¬ ((na : Int) = nb) by omega]
    have : a ≠ b := fun h => he (by rw [h] at la; omega)
    simpa [this] using hV
theorem w301 {x y : G} {vx vy : Value} (hx : GAt A x vx) (hy : GAt A y vy) (hn : x.m < 1000000) (he : x = y) (hV : ∀ A', Ext' A A' → V (.bool true) A') : WF AP KL g 301 [vx, vy] A V := by
  subst he
  obtain ⟨sx, rfl, rx⟩ := hx
  obtain ⟨sy, rfl, ry⟩ := hy
  rw [WF_body (show KL 301 = none from rfl) (show AP 301 = some F301 from rfl)]
  have e1 : Ext' A ((A.push (.cells [.int .i64 x.w, .int .i64 x.h, .int .i64 x.s, sx] false)).push (.cells [.int .i64 x.w, .int .i64 x.h, .int .i64 x.s, sy] false)) := (Ext'.push _ _).trans (Ext'.push _ _)
  simp (disch := as_aux_lemma => first | omega | simp only [hDs] <;> omega | simp [isCell]) [hRs, takeMarks, resA, resAll, resOne, Value.cells, F301, gridV]
  refine w294 (e1.rdS rx) (e1.rdS ry) hn ?_
  simp (disch := as_aux_lemma => first | omega | simp only [hDs] <;> omega | simp [isCell]) [hRs, takeMarks, resA, resAll, resOne, Value.cells]
  exact hV _ e1
theorem w327 {a b c d : Int} (hg : g ≤ A.n) (hV : ∀ A', Ext' A A' → V (.tuple ⟨[.agg ⟨[.int .i64 (max a c), .int .i64 (min b d)]⟩, .bool (decide (max a c ≤ min b d))]⟩) A') :
    WF AP KL g 327 [.agg ⟨[.int .i64 a, .int .i64 b]⟩, .agg ⟨[.int .i64 c, .int .i64 d]⟩] A V := by
  rw [WF_body (show KL 327 = none from rfl) (show AP 327 = some F327 from rfl)]
  simp (disch := as_aux_lemma => first | omega | simp only [hDs] <;> omega | simp [isCell]) [hRs, takeMarks, resA, resAll, resOne, Value.cells, F327, fillA, setRange, storeB_cells, set_push_eq, setRange_all, apartA]
  exact hV _ ((((Ext'.push _ _).trans (Ext'.push _ _)).trans (Ext'.push _ _)).trans (Ext'.push _ _))
theorem w161 {m : Nat} {zs : List Int} {sl : Value} (hsl : RdS A 2 m (ints zs) sl) (h0 : 0 < m) (hm : m < 1000000) (hg : g ≤ A.n)
    (hV : ∀ A' Y c, Ext' A A' → A.n ≤ Y → A'.get Y = some (.cells (ints zs) false) → V (.slice (some ⟨Y, 0, some 2⟩) m c) A') : WF AP KL g 161 [sl] A V := by
  rw [WF_body (show KL 161 = none from rfl) (show AP 161 = some F161 from rfl)]
  obtain ⟨xb, xc, xr, hs, hxb⟩ := hsl.at h0
  obtain ⟨Y, c, A', h1, e1, hY, hAY⟩ := copy_fresh (g := g) (bytes := 16) hsl (ints_isCell _) hg (by decide) (by unfold room; omega)
  subst hs
  simp (disch := as_aux_lemma => first | omega | simp only [hDs] <;> omega | simp [isCell]) [hRs, takeMarks, resA, resAll, resOne, Value.cells, F161, eqNilA, isNil, slitA, zeros, fillA, h1]
  exact hV _ _ _ e1 hAY hY
def OwnV (V : Value → Hp → Prop) (A : Hp) (w h s : Int) (m : Nat) (zs : List Int) : Prop :=
  ∀ A' Y c, Ext' A A' → A.n ≤ Y → A'.get Y = some (.cells (ints zs) false) → V (gridV w h s (.slice (some ⟨Y, 0, some 2⟩) m c)) A'
theorem w326 {w h s : Int} {m : Nat} {zs : List Int} {sl : Value} (hsl : RdS A 2 m (ints zs) sl) (h0 : 0 < m) (hm : m < 1000000) (hg : g ≤ A.n) (hV : OwnV V A w h s m zs) : WF AP KL g 326 [gridV w h s sl] A V := by
  rw [WF_body (show KL 326 = none from rfl) (show AP 326 = some F326 from rfl)]
  obtain ⟨B, hB⟩ : ∃ B, B = (A.push (.cells [.int .i64 w, .int .i64 h, .int .i64 s, sl] false)).push (.cells [.int .i64 0, .int .i64 0, .int .i64 0, .slice none 0 0] false) := ⟨_, rfl⟩
  have eB : Ext' A B := by rw [hB]; exact (Ext'.push _ _).trans (Ext'.push _ _)
  have nB : B.n = A.n + 2 := by rw [hB]; rfl
  have b0 : B.get A.n = some (.cells [.int .i64 w, .int .i64 h, .int .i64 s, sl] false) := by rw [hB, get_push_old (by simp), get_push_eq (by omega)]
  have b1 : B.get (A.n + 1) = some (.cells [.int .i64 0, .int .i64 0, .int .i64 0, .slice none 0 0] false) := by rw [hB, get_push_eq (by simp)]
  simp (disch := as_aux_lemma => first | omega | simp only [hDs] <;> omega | simp [isCell]) [hRs, takeMarks, resA, resAll, resOne, Value.cells, F326, gridV, ← hB, b0]
  refine w161 (eB.rdS hsl) h0 hm (by omega) fun A' Y c e' hAY hY => ?_
  have c0 := e'.get b0
  have c1 := e'.get b1
  have n' := e'.1
  obtain ⟨C, hC⟩ : ∃ C, C = A'.set A.n (some (.cells [.int .i64 w, .int .i64 h, .int .i64 s, .slice (some ⟨Y, 0, some 2⟩) m c] false)) := ⟨_, rfl⟩
  have d0 : C.get A.n = some (.cells [.int .i64 w, .int .i64 h, .int .i64 s, .slice (some ⟨Y, 0, some 2⟩) m c] false) := by rw [hC]; exact get_set_same c0
  have oC : ∀ z, z < A'.n → z ≠ A.n → C.get z = A'.get z := fun z hz hn => by rw [hC]; exact get_set_ne (by omega) hn
  have d1 : C.get (A.n + 1) = some (.cells [.int .i64 0, .int .i64 0, .int .i64 0, .slice none 0 0] false) := by rw [oC _ (by omega) (by omega)]; exact c1
  have nC : C.n = A'.n := by rw [hC]; rfl
  simp (disch := as_aux_lemma => first | omega | simp only [hDs] <;> omega | simp [isCell]) [hRs, takeMarks, resA, resAll, resOne, Value.cells, c0, storeB_cells, setRange, ← hC, d0, d1, setRange_all, get_set_same d1]
  have oD : ∀ z, z < A'.n → z ≠ A.n → z ≠ A.n + 1 → (C.set (A.n + 1) (some (.cells [.int .i64 w, .int .i64 h, .int .i64 s, .slice (some ⟨Y, 0, some 2⟩) m c] false))).get z = A'.get z := fun z hz h1 h2 => by rw [get_set_ne (by omega) h2, oC z hz h1]
  have hYn := Hp.lt_of_get hY
  exact hV _ Y c ⟨by simp; omega, fun z hz => by rw [oD z (by omega) (by omega) (by omega), e'.2 z (by omega), eB.2 z hz]⟩ (by omega) (by rw [oD Y hYn (by omega) (by omega)]; exact hY)
end
end Go.Ab.Grid
set_option maxRecDepth 100000
namespace Go.Ab.Grid
open Go Go.Ab
def meetZ (cur : List Int) (i : Nat) (lo hi : Int) : Option (List Int) :=
  if max (gi cur (i * 2)) lo ≤ min (gi cur (i * 2 + 1)) hi then some ((cur.set (i * 2) (max (gi cur (i * 2)) lo)).set (i * 2 + 1) (min (gi cur (i * 2 + 1)) hi)) else none
def goM (step : Nat → List Int → Option (List Int)) : Nat → Nat → List Int → Except Nat (List Int)
  | 0, _, cur => .ok cur
  | k + 1, i, cur => match step i cur with
    | some cur' => goM step k (i + 1) cur'
    | none => .error i
def narStep (ys : List Int) (i : Nat) (cur : List Int) : Option (List Int) := meetZ cur i (gi ys (i * 2)) (gi ys (i * 2 + 1))
def outG (x : G) : Except Nat (List Int) → G × Int × Int
  | .ok l => ({ x with zs := l }, 0, 0)
  | .error i => (G0, i, 14)
def sameSides (x y : G) : Bool := decide (x.w = y.w) && decide (x.h = y.h) && decide (x.s = y.s)
def narF (x y : G) : G × Int × Int :=
  if x.E = 0 then if y.E = 0 then if sameSides x y = true then outG x (goM (narStep y.zs) y.m 0 x.zs) else (G0, 0, 11) else (G0, 0, y.E) else (G0, 0, x.E)
def GV3 (A : Hp) (r : G × Int × Int) (v : Value) : Prop := ∃ vg, v = .tuple ⟨[vg, .int .i64 r.2.1, .int .i64 r.2.2]⟩ ∧ GAt A r.1 vg
theorem setRange_two {cur : List Int} {i : Nat} {a b : Int} (h : i * 2 + 2 ≤ cur.length) : setRange (ints cur) (i * 2) [.int .i64 a, .int .i64 b] = ints ((cur.set (i * 2) a).set (i * 2 + 1) b) := by
  have hl : (ints cur).length = cur.length := by simp
  have e1 : ints ((cur.set (i * 2) a).set (i * 2 + 1) b) = ((ints cur).set (i * 2) (.int .i64 a)).set (i * 2 + 1) (.int .i64 b) := by simp [ints, List.map_set]
  rw [e1]
  generalize ints cur = l at hl ⊢
  apply List.ext_getElem?
  intro j
  simp only [setRange, List.length_cons, List.length_nil]
  rw [List.getElem?_set, List.getElem?_set, List.append_assoc]
  by_cases h1 : j < i * 2
  · rw [List.getElem?_append_left (by simp; omega), List.getElem?_take_of_lt h1, if_neg (by omega), if_neg (by omega)]
  · rw [List.getElem?_append_right (by simp; omega)]
    have ht : (l.take (i * 2)).length = i * 2 := by simp; omega
    rw [ht]
    by_cases h2 : j = i * 2
    · subst h2
      simp [show i * 2 < l.length by omega]
    · by_cases h3 : j = i * 2 + 1
      · subst h3
        simp [show i * 2 + 1 < l.length by omega]
      · obtain ⟨q, rfl⟩ : ∃ q, j = i * 2 + 2 + q := ⟨j - (i * 2 + 2), by omega⟩
        rw [if_neg (by omega), if_neg (by omega), show i * 2 + 2 + q - i * 2 = q + 2 by omega]
        simp [List.getElem?_drop]
theorem _root_.Go.Ab.RdS.isSlice' {A : Hp} {k n : Nat} {cs : List Value} {sv : Value} (h : RdS A k n cs sv) : ∃ p c, sv = .slice p n c := by
  rcases h with ⟨_, ⟨rfl, rfl⟩ | ⟨_, _, _, rfl, _⟩⟩ <;> exact ⟨_, _, rfl⟩
theorem set_same {A : Hp} {x : Nat} {b : ABlk} (h : A.get x = some b) : Ext' A (A.set x (some b)) := by
  have hn := Hp.lt_of_get h
  refine ⟨by simp, fun z hz => ?_⟩
  by_cases hzx : z = x
  · subst hzx; rw [get_set_same h, h]
  · exact get_set_ne hn hzx
abbrev zeroG : ABlk := .cells [.int .i64 0, .int .i64 0, .int .i64 0, .slice none 0 0] false
section
variable {g : Nat} {rd : Option Nat} {T : List Value} {D : List Nat} {A : Hp} {Q : Ex → St → Prop} {V : Value → Hp → Prop}
theorem loop299 {A0 : Hp} {X4 X10 Y c m : Nat} {w h s : Int} {ys : List Int} {sl : Value} (hsl : RdS A0 2 m (ints ys) sl) (hm : m < 1000000) (hY : ∀ z, blkOf sl = some z → z ≠ Y) (hYn : Y < A0.n) (hgY : g ≤ Y) (hg4 : g ≤ X4) (hX4 : X4 ≠ Y) (hX10 : X10 ≠ Y)
    (h4 : A0.get X4 = some zeroG) (h10 : A0.get X10 = some (.cells [.int .i64 w, .int .i64 h, .int .i64 s, .slice (some ⟨Y, 0, some 2⟩) m c] false))
    {r : Except Nat (List Int)}
    (hQ : ∀ T' A' cur, r = .ok cur → But Y A0 A' → A'.get Y = some (.cells (ints cur) false) → cur.length = m * 2 → tget T' 4 = .pointer (some ⟨X4, 0, none⟩) → tget T' 10 = .pointer (some ⟨X10, 0, none⟩) → Q (.exit 2) ⟨T', D, A'⟩)
    (hR : ∀ T' A' j, r = .error j → But Y A0 A' → tget T' 4 = .pointer (some ⟨X4, 0, none⟩) → tget T' 5 = .int .i64 (j : Nat) → tget T' 6 = .int .i64 14 → Q .ret ⟨T', D, A'⟩) :
    ∀ (k i : Nat) {T : List Value} {A : Hp} (cur : List Int), i + k = m → goM (narStep ys) k i cur = r → cur.length = m * 2 → But Y A0 A → A.get Y = some (.cells (ints cur) false) →
      tget T 4 = .pointer (some ⟨X4, 0, none⟩) → tget T 10 = .pointer (some ⟨X10, 0, none⟩) → tget T 53 = sl → tget T 54 = .int .i64 m → tget T 55 = .int .i64 i → W AP KL g rd (.loop body299) ⟨T, D, A⟩ Q := by
  intro k
  have ly : ys.length = m * 2 := by have := hsl.1; simpa using this
  have hX4n := Hp.lt_of_get h4
  have hX10n := Hp.lt_of_get h10
  induction k with
  | zero =>
    intro i T A cur hi hr hc hb hA t4 t10 t53 t54 t55
    rw [W_loop]
    simp (disch := as_aux_lemma => first | omega | simp only [hDs] <;> omega | simp [isCell]) [hRs, takeMarks, resA, resAll, resOne, Value.cells, body299, t54, t55, show ¬ ((i : Int) < m) by omega]
    exact hQ _ _ cur hr.symm hb hA hc (by simp [t4]) (by simp [t10])
  | succ k ih =>
    intro i T A cur hi hr hc hb hA t4 t10 t53 t54 t55
    have e5 : wr .i64 ((i : Int) + 1) = ((i + 1 : Nat) : Int) := by rw [wrId (by omega) (by omega)]; simp
    have hAn := hb.1
    have hsA := hsl.keepB (A' := A) fun z hz => hb.2 z (hsl.blk_lt hz) (hY z hz)
    obtain ⟨yb, yc, yr, rfl, hyb⟩ := hsA.at (show i < m by omega)
    have hybn := Hp.lt_of_get hyb
    have a10 : A.get X10 = some (.cells [.int .i64 w, .int .i64 h, .int .i64 s, .slice (some ⟨Y, 0, some 2⟩) m c] false) := by rw [hb.2 _ hX10n hX10]; exact h10
    have a4 : A.get X4 = some zeroG := by rw [hb.2 _ hX4n hX4]; exact h4
    rw [W_loop]
    simp (disch := as_aux_lemma => first | omega | simp only [hDs] <;> omega | simp [isCell]) [hRs, takeMarks, resA, resAll, resOne, Value.cells, body299, t4, t10, t53, t54, t55, show ((i : Int) < m) by omega, show i < m by omega, idxSA_ok, hyb, ints_two, ly, hc, storeB_cells, setRange_all, set_push_eq, a10, hA]
    obtain ⟨C, hC⟩ : ∃ C, C = A.push (.cells [.int .i64 (gi ys (i * 2)), .int .i64 (gi ys (i * 2 + 1))] false) := ⟨_, rfl⟩
    rw [← hC]
    have eC : Ext' A C := by rw [hC]; exact Ext'.push _ _
    have nC := eC.1
    refine w327 (by rw [hC]; simp) fun A1 e1 => ?_
    have e01 := eC.trans e1
    have n1 := e01.1
    have hYA := Hp.lt_of_get hA
    unfold goM narStep meetZ at hr
    by_cases hm' : max (gi cur (i * 2)) (gi ys (i * 2)) ≤ min (gi cur (i * 2 + 1)) (gi ys (i * 2 + 1))
    · rw [if_pos hm'] at hr
      have a10' : A1.get X10 = some (.cells [.int .i64 w, .int .i64 h, .int .i64 s, .slice (some ⟨Y, 0, some 2⟩) m c] false) := e01.get a10
      have hA' := e01.get hA
      simp (disch := as_aux_lemma => first | omega | simp only [hDs] <;> omega | simp [isCell]) [hRs, takeMarks, resA, resAll, resOne, Value.cells, hm', t10, a10', storeB_cells, setRange_all, set_push_eq, show i < m by omega, idxSA_ok, hA', hc, setRange_two, t54, t55, e5]
      refine ih (i + 1) _ (by omega) hr (by simp [hc]) (hb.trans (But.trans (But.set hYA e01) (But.of_ext (Ext'.push _ _)))) ?_ ?_ ?_ ?_ ?_ ?_
      · rw [get_push_old (by simp; omega)]
        exact get_set_same hA'
      all_goals simp [t4, t10, t53, t54]
    · rw [if_neg hm'] at hr
      simp (disch := as_aux_lemma => first | omega | simp only [hDs] <;> omega | simp [isCell]) [hRs, takeMarks, resA, resAll, resOne, Value.cells, hm', t4, e01.get a4, storeB_cells, setRange_all, set_push_eq, fillA]
      refine hR _ _ i hr.symm ?_ (by simp [t4]) (by simp) (by simp)
      exact hb.trans (But.of_ext ((e01.trans (set_same (e01.get a4))).trans (Ext'.push _ _)))
theorem loop299a {A0 : Hp} {X4 R : Nat} {x y : G} {sx sy : Value} (hx : RdS A0 2 x.m (ints x.zs) sx) (hy : RdS A0 2 y.m (ints y.zs) sy) (hmx : x.m < 1000000) (hmy : y.m < 1000000) (hg4 : g ≤ X4) (h4 : A0.get X4 = some zeroG)
    (hR0 : A0.get R = some (.cells [.int .i64 x.w, .int .i64 x.h, .int .i64 x.s, sx, .int .i64 y.w, .int .i64 y.h, .int .i64 y.s, sy] false)) {T0 : List Value}
    (t4 : tget T0 4 = .pointer (some ⟨X4, 0, none⟩)) (t17 : tget T0 17 = .slice (some ⟨R, 0, some 4⟩) 2 2) (t18 : tget T0 18 = .int .i64 2) (t19 : tget T0 19 = .int .i64 0)
    (hQ : ∀ T' A', x.E = 0 → y.E = 0 → Ext' A0 A' → tget T' 4 = .pointer (some ⟨X4, 0, none⟩) → tget T' 2 = tget T0 2 → tget T' 3 = tget T0 3 → Q (.exit 0) ⟨T', D, A'⟩)
    (hR : ∀ T' A' e, e = (if x.E = 0 then y.E else x.E) → e ≠ 0 → Ext' A0 A' → tget T' 4 = .pointer (some ⟨X4, 0, none⟩) → tget T' 5 = .int .i64 0 → tget T' 6 = .int .i64 e → Q .ret ⟨T', D, A'⟩) :
    W AP KL g rd (.loop body299a) ⟨T0, D, A0⟩ Q := by
  have hX4n := Hp.lt_of_get h4
  have hRn := Hp.lt_of_get hR0
  obtain ⟨px, cx, rfl⟩ := hx.isSlice'
  obtain ⟨py, cy, rfl⟩ := hy.isSlice'
  rw [W_loop]
  simp (disch := as_aux_lemma => first | omega | simp only [hDs] <;> omega | simp [isCell]) [hRs, takeMarks, resA, resAll, resOne, Value.cells, body299a, t4, t17, t18, t19, idxSA_ok, hR0, storeB_cells, setRange_all, set_push_eq]
  refine w37 ((Ext'.push _ _).rdS hx) hmx fun A1 e1 => ?_
  have e01 := (Ext'.push A0 _).trans e1
  change Ext' A0 A1 at e01
  have n01 := e01.1
  by_cases hE : gridE x.w x.h x.s x.m x.zs = 0
  · simp (disch := as_aux_lemma => first | omega | simp only [hDs] <;> omega | simp [isCell]) [hRs, takeMarks, resA, resAll, resOne, Value.cells, hE, t18, t19, show wr .i64 1 = 1 by decide]
    rw [W_loop]
    simp (disch := as_aux_lemma => first | omega | simp only [hDs] <;> omega | simp [isCell]) [hRs, takeMarks, resA, resAll, resOne, Value.cells, body299a, t4, t17, t18, t19, idxSA_ok, e01.get hR0, storeB_cells, setRange_all, set_push_eq]
    refine w37 ((Ext'.push _ _).rdS (e01.rdS hy)) hmy fun A2 e2 => ?_
    have e02 := e01.trans ((Ext'.push A1 _).trans e2)
    change Ext' A0 A2 at e02
    have n02 := e02.1
    by_cases hE2 : gridE y.w y.h y.s y.m y.zs = 0
    · simp (disch := as_aux_lemma => first | omega | simp only [hDs] <;> omega | simp [isCell]) [hRs, takeMarks, resA, resAll, resOne, Value.cells, hE2, t18, show wr .i64 2 = 2 by decide]
      rw [W_loop]
      simp (disch := as_aux_lemma => first | omega | simp only [hDs] <;> omega | simp [isCell]) [hRs, takeMarks, resA, resAll, resOne, Value.cells, body299a, t4, t17, t18]
      exact hQ _ _ hE hE2 e02 (by simp [t4]) (by simp) (by simp)
    · simp (disch := as_aux_lemma => first | omega | simp only [hDs] <;> omega | simp [isCell]) [hRs, takeMarks, resA, resAll, resOne, Value.cells, hE2, t4, fillA, e02.get h4, storeB_cells, setRange_all]
      exact hR _ _ _ (by rw [if_pos (show x.E = 0 from hE)]; rfl) hE2 (e02.trans (set_same (e02.get h4))) (by simp [t4]) (by simp) (by simp [G.E])
  · simp (disch := as_aux_lemma => first | omega | simp only [hDs] <;> omega | simp [isCell]) [hRs, takeMarks, resA, resAll, resOne, Value.cells, hE, t4, fillA, e01.get h4, storeB_cells, setRange_all]
    exact hR _ _ _ (by rw [if_neg (show ¬ x.E = 0 from hE)]; rfl) hE (e01.trans (set_same (e01.get h4))) (by simp [t4]) (by simp) (by simp [G.E])
theorem gridE_zero {w h s : Int} {m : Nat} {zs : List Int} (h0 : gridE w h s m zs = 0) : 0 < m := by
  unfold gridE at h0
  split at h0
  · cases h0
  · rename_i hc
    split at h0
    · cases h0
    · rename_i hm
      have hm' : (m : Int) = wr .i64 (w * h) := Decidable.not_not.1 hm
      simp only [not_or, Bool.not_eq_false, Bool.and_eq_true, decide_eq_true_eq] at hc
      obtain ⟨⟨a1, a2⟩, ⟨b1, b2⟩, _⟩ := hc
      have l1 : 1 ≤ w * h := by have := Int.mul_le_mul a1 b1 (by decide) (by omega); simpa using this
      have l2 : w * h ≤ 576 := by have := Int.mul_le_mul a2 b2 (by omega) (by decide); simpa using this
      rw [wrId (by omega) (by omega)] at hm'
      omega
theorem GAt.tuple {A : Hp} {x : G} {vg : Value} {i e : Int} (h : GAt A x vg) : GV3 A (x, i, e) (.tuple ⟨[vg, .int .i64 i, .int .i64 e]⟩) := ⟨vg, rfl, h⟩
theorem w299 {x y : G} {vx vy : Value} (hx : GAt A x vx) (hy : GAt A y vy) (hmx : x.m < 1000000) (hmy : y.m < 1000000) (hg : g ≤ A.n)
    (hV : ∀ A' v, Ext' A A' → GV3 A' (narF x y) v → V v A') : WF AP KL g 299 [vx, vy] A V := by
  obtain ⟨sx, rfl, rx⟩ := hx
  obtain ⟨sy, rfl, ry⟩ := hy
  obtain ⟨px, cx, rfl⟩ := rx.isSlice'
  obtain ⟨py, cy, rfl⟩ := ry.isSlice'
  obtain ⟨sx, hsx⟩ : ∃ sx, sx = Value.slice px x.m cx := ⟨_, rfl⟩
  obtain ⟨sy, hsy⟩ : ∃ sy, sy = Value.slice py y.m cy := ⟨_, rfl⟩
  rw [WF_body (show KL 299 = none from rfl) (show AP 299 = some F299 from rfl)]
  obtain ⟨B, hB⟩ : ∃ B, B = ((A.push (.cells [.int .i64 x.w, .int .i64 x.h, .int .i64 x.s, .slice px x.m cx] false)).push (.cells [.int .i64 y.w, .int .i64 y.h, .int .i64 y.s, .slice py y.m cy] false)).push zeroG := ⟨_, rfl⟩
  have eB : Ext' A B := by rw [hB]; exact ((Ext'.push _ _).trans (Ext'.push _ _)).trans (Ext'.push _ _)
  have nB : B.n = A.n + 3 := by rw [hB]; rfl
  have b0 : B.get A.n = some (.cells [.int .i64 x.w, .int .i64 x.h, .int .i64 x.s, .slice px x.m cx] false) := by rw [hB, get_push_old (by simp; omega), get_push_old (by simp), get_push_eq (by omega)]
  have b1 : B.get (A.n + 1) = some (.cells [.int .i64 y.w, .int .i64 y.h, .int .i64 y.s, .slice py y.m cy] false) := by rw [hB, get_push_old (by simp), get_push_eq (by simp)]
  have b2 : B.get (A.n + 2) = some zeroG := by rw [hB, get_push_eq (by simp)]
  have z2 : zeros 2 [Value.int .i64 0, .int .i64 0, .int .i64 0, .slice none 0 0] = [.int .i64 0, .int .i64 0, .int .i64 0, .slice none 0 0, .int .i64 0, .int .i64 0, .int .i64 0, .slice none 0 0] := rfl
  unfold zeroG at hB
  simp (disch := as_aux_lemma => first | omega | simp only [hDs] <;> omega | simp [isCell]) [hRs, takeMarks, resA, resAll, resOne, Value.cells, F299, gridV, ← hB, b0, b1, slitA, fillA, setRange, z2]
  obtain ⟨C, hC⟩ : ∃ C, C = B.push (.cells [.int .i64 x.w, .int .i64 x.h, .int .i64 x.s, .slice px x.m cx, .int .i64 y.w, .int .i64 y.h, .int .i64 y.s, .slice py y.m cy] false) := ⟨_, rfl⟩
  rw [← hC]
  have eC : Ext' B C := by rw [hC]; exact Ext'.push _ _
  have e0 := eB.trans eC
  have nC : C.n = A.n + 4 := by rw [hC]; simp [nB]
  refine loop299a (X4 := A.n + 2) (R := B.n) (x := x) (y := y) (e0.rdS rx) (e0.rdS ry) hmx hmy (by omega) (eC.get b2) (by rw [hC]; exact get_push_eq (by omega)) ?_ ?_ ?_ ?_ (fun T1 A1 hE1 hE2 e1 t4 t2 t3 => ?_) (fun T1 A1 e he hne e1 t4 t5 t6 => ?_)
  · simp
  · simp
  · simp
  · simp
  · have n1 := e1.1
    have c0 := e1.get (eC.get b0)
    have c1 := e1.get (eC.get b1)
    have c2 := e1.get (eC.get b2)
    replace t2 : tget T1 2 = .pointer (some ⟨A.n, 0, none⟩) := by rw [t2]; simp
    replace t3 : tget T1 3 = .pointer (some ⟨A.n + 1, 0, none⟩) := by rw [t3]; simp
    have bad : sameSides x y = false → V (.tuple ⟨[gridV 0 0 0 (.slice none 0 0), .int .i64 0, .int .i64 11]⟩) (A1.set (A.n + 2) (some zeroG)) := fun hs => by
      refine hV _ _ ((e0.trans e1).trans (set_same c2)) ?_
      rw [narF, if_pos hE1, if_pos hE2, hs]
      exact GAt.zero.tuple
    by_cases hw : x.w = y.w
    · by_cases hh : x.h = y.h
      · by_cases hs : x.s = y.s
        · have hsame : sameSides x y = true := by simp [sameSides, hw, hh, hs]
          simp (disch := as_aux_lemma => first | omega | simp only [hDs] <;> omega | simp [isCell]) [hRs, takeMarks, resA, resAll, resOne, Value.cells, t2, t3, t4, c0, c1, hw.symm, hh.symm, hs.symm]
          have e01 := e0.trans e1
          rw [← hsx] at rx
          refine w326 (by rw [← hsx]; exact e01.rdS rx) (gridE_zero hE1) hmx (by omega) fun A2 Y c e2 hYn hY => ?_
          have n2 := e2.1
          have hYA := Hp.lt_of_get hY
          simp (disch := as_aux_lemma => first | omega | simp only [hDs] <;> omega | simp [isCell]) [hRs, takeMarks, resA, resAll, resOne, Value.cells, gridV, storeB_cells, setRange_all, set_push_eq, t3, get_push_old, e2.get c1, t4]
          obtain ⟨C2, hC2⟩ : ∃ C2, C2 = A2.push (.cells [.int .i64 x.w, .int .i64 x.h, .int .i64 x.s, .slice (some ⟨Y, 0, some 2⟩) x.m c] false) := ⟨_, rfl⟩
          have eC2 : Ext' A2 C2 := by rw [hC2]; exact Ext'.push _ _
          have e02 := (e01.trans e2).trans eC2
          rw [← hC2]
          have hlx : x.zs.length = x.m * 2 := by have := rx.1; simpa using this
          obtain ⟨-, -, gmx, -⟩ := gridE_parts hE1
          obtain ⟨-, -, gmy, -⟩ := gridE_parts hE2
          have hmm : x.m = y.m := by rw [← hw, ← hh] at gmy; omega
          refine loop299 (X4 := A.n + 2) (X10 := A2.n) (Y := Y) (c := c) (m := y.m) (w := x.w) (h := x.h) (s := x.s) (ys := y.zs) (sl := .slice py y.m cy) (e02.rdS ry) hmy ?_ (by have := eC2.1; omega) (by omega) (by omega) (by omega) (by omega) ((e2.trans eC2).get c2) (by rw [hC2, get_push_new, hmm]) (r := goM (narStep y.zs) y.m 0 x.zs)
            (fun T' A' cur hr hb hA' hl t4 t10 => ?_) (fun T' A' j hr hb t4 t5 t6 => ?_) y.m 0 x.zs (by omega) rfl (by rw [hlx, hmm]) (But.of_ext ⟨Nat.le_refl _, fun _ _ => rfl⟩) (eC2.get hY) ?_ ?_ ?_ ?_ ?_
          · intro z hz
            have := ry.blk_lt hz
            omega
          · have ox : ∀ z, z < A2.n + 1 → z ≠ Y → A'.get z = C2.get z := fun z hz hzn => hb.2 z (by rw [hC2]; simpa using hz) hzn
            have x10 : A'.get A2.n = some (.cells [.int .i64 x.w, .int .i64 x.h, .int .i64 x.s, .slice (some ⟨Y, 0, some 2⟩) x.m c] false) := by rw [ox _ (by omega) (by omega), hC2, get_push_new]
            have x4 : A'.get (A.n + 2) = some zeroG := by rw [ox _ (by omega) (by omega)]; exact (e2.trans eC2).get c2
            simp (disch := as_aux_lemma => first | omega | simp only [hDs] <;> omega | simp [isCell]) [hRs, takeMarks, resA, resAll, resOne, Value.cells, t4, t10, x10, x4, storeB_cells, setRange_all, get_set_same x4]
            have hA2n := hb.1
            have nC2 : C2.n = A2.n + 1 := by rw [hC2]; rfl
            refine hV _ _ ⟨by simp; omega, fun z hz => by rw [get_set_ne (by omega) (by omega), ox z (by omega) (by omega), e02.2 z hz]⟩ ?_
            rw [narF, if_pos hE1, if_pos hE2, if_pos hsame, hr]
            have hYn' := Hp.lt_of_get hA'
            refine GAt.tuple (x := { x with zs := cur }) ⟨_, rfl, ⟨by simp [hl, hmm], .inr ⟨Y, c, false, rfl, ?_⟩⟩⟩
            rw [get_set_ne (by omega) (by omega)]
            exact hA'
          · have x4 : A'.get (A.n + 2) = some zeroG := by rw [hb.2 _ (by have := eC2.1; omega) (by omega)]; exact (e2.trans eC2).get c2
            simp (disch := as_aux_lemma => first | omega | simp only [hDs] <;> omega | simp [isCell]) [hRs, takeMarks, resA, resAll, resOne, Value.cells, t4, t5, t6, x4]
            have hA2n := hb.1
            have nC2 : C2.n = A2.n + 1 := by rw [hC2]; rfl
            refine hV _ _ ⟨by omega, fun z hz => by rw [hb.2 z (by omega) (by omega), e02.2 z hz]⟩ ?_
            rw [narF, if_pos hE1, if_pos hE2, if_pos hsame, hr]
            exact GAt.zero.tuple
          all_goals simp [t4]
        · have hb := bad (by simp [sameSides, hs])
          simp (disch := as_aux_lemma => first | omega | simp only [hDs] <;> omega | simp [isCell]) [hRs, takeMarks, resA, resAll, resOne, Value.cells, t2, t3, t4, c0, c1, c2, hw, hh, hs, fillA, storeB_cells, setRange_all, get_set_same c2]
          exact hb
      · have hb := bad (by simp [sameSides, hh])
        simp (disch := as_aux_lemma => first | omega | simp only [hDs] <;> omega | simp [isCell]) [hRs, takeMarks, resA, resAll, resOne, Value.cells, t2, t3, t4, c0, c1, c2, hw, hh, fillA, storeB_cells, setRange_all, get_set_same c2]
        exact hb
    · have hb := bad (by simp [sameSides, hw])
      simp (disch := as_aux_lemma => first | omega | simp only [hDs] <;> omega | simp [isCell]) [hRs, takeMarks, resA, resAll, resOne, Value.cells, t2, t3, t4, c0, c1, c2, hw, fillA, storeB_cells, setRange_all, get_set_same c2]
      exact hb
  · simp (disch := as_aux_lemma => first | omega | simp only [hDs] <;> omega | simp [isCell]) [hRs, takeMarks, resA, resAll, resOne, Value.cells, t4, t5, t6, e1.get (eC.get b2)]
    refine hV _ _ (e0.trans e1) ?_
    have : narF x y = (G0, 0, e) := by
      unfold narF
      split at he
      · rename_i h1; rw [if_pos h1, if_neg (by rw [← he]; exact hne), he]
      · rename_i h1; rw [if_neg h1, he]
    rw [this]
    exact GAt.zero.tuple
end
end Go.Ab.Grid
set_option maxRecDepth 100000
namespace Go.Ab.Grid
open Go Go.Ab
@[simp] theorem GuardW_un {AP : Nat → Option AFunc} {K : Nat → Option Spec} {g : Nat} {dst : Option Nat} {op : AOp} {l : List AOper} {T : List Value} {A : Hp} {R : List Value → Hp → Prop} {b : Bool} :
    GuardW AP K g dst op l T A R b undef = WO AP K g l (putA dst T undef) A R := rfl
section
variable {g : Nat} {rd : Option Nat} {T : List Value} {D : List Nat} {A : Hp} {Q : Ex → St → Prop} {V : Value → Hp → Prop}
end
end Go.Ab.Grid
set_option maxRecDepth 100000
namespace Go.Ab.Grid
open Go Go.Ab
def sndC (m : Nat) (ls : List Int) (i : Nat) : Int :=
  if (decide (0 ≤ gi ls (i * 3)) && decide (gi ls (i * 3) ≤ (m : Int) - 1)) = true then
    if (decide (-1200000 ≤ gi ls (i * 3 + 1)) && decide (gi ls (i * 3 + 1) ≤ 1200000)) = true then if (decide (0 ≤ gi ls (i * 3 + 2)) && decide (gi ls (i * 3 + 2) ≤ 100000)) = true then 0 else 3 else 3
  else 4
section
variable {g : Nat} {rd : Option Nat} {T : List Value} {D : List Nat} {A : Hp} {Q : Ex → St → Prop} {V : Value → Hp → Prop}
end
end Go.Ab.Grid
set_option maxRecDepth 100000
namespace Go.Ab.Grid
open Go Go.Ab
section
variable {g : Nat} {rd : Option Nat} {T : List Value} {D : List Nat} {A : Hp} {Q : Ex → St → Prop} {V : Value → Hp → Prop}
end
end Go.Ab.Grid
set_option maxRecDepth 100000
namespace Go.Ab.Grid
open Go Go.Ab
section
variable {g : Nat} {rd : Option Nat} {T : List Value} {D : List Nat} {A : Hp} {Q : Ex → St → Prop} {V : Value → Hp → Prop}
end
end Go.Ab.Grid
set_option maxRecDepth 100000
namespace Go.Ab.Grid
open Go Go.Ab
structure Land where
  wide : Int
  high : Int
  nl : Nat
  low : List Int
  nm : Nat
  more : List Int
def Land.lo (L : Land) (i : Nat) : Int := if 0 < L.nl then gi L.low (i % L.nl) else 0
def Land.hi (L : Land) (i : Nat) : Int := L.lo i + if 0 < L.nm then gi L.more (i % L.nm) else 0
def Land.w (L : Land) : Int := 1 + L.wide.tmod 5
def Land.h (L : Land) : Int := 1 + L.high.tmod 5
def Land.n (L : Land) : Nat := (L.w * L.h).toNat
def Land.zs (L : Land) : Nat → List Int
  | 0 => []
  | i + 1 => L.zs i ++ [L.lo i, L.hi i]
def Land.G (L : Land) : G := ⟨L.w, L.h, 100, L.n, L.zs L.n⟩
structure Land.Ok (L : Land) : Prop where
  wide : 0 ≤ L.wide ∧ L.wide ≤ 255
  high : 0 ≤ L.high ∧ L.high ≤ 255
  low : ∀ i, -32768 ≤ gi L.low i ∧ gi L.low i ≤ 32767
  more : ∀ i, 0 ≤ gi L.more i ∧ gi L.more i ≤ 255
  nl : L.low.length = L.nl ∧ L.nl ≤ 9223372036854775807
  nm : L.more.length = L.nm ∧ L.nm ≤ 9223372036854775807
def Land.At (L : Land) (A : Hp) (sl sm : Value) : Prop := RdS A 1 L.nl (kints .i16 L.low) sl ∧ RdS A 1 L.nm (kints .u8 L.more) sm
def Land.V (L : Land) (sl sm : Value) : Value := .agg ⟨[.int .u8 L.wide, .int .u8 L.high, sl, sm]⟩
theorem Land.zs_len {L : Land} : ∀ {i : Nat}, (L.zs i).length = i * 2
  | 0 => rfl
  | i + 1 => by rw [Land.zs, List.length_append, Land.zs_len]; simp; omega
theorem Land.Ok.w {L : Land} (h : L.Ok) : 1 ≤ L.w ∧ L.w ≤ 5 := by
  have h1 := Int.tmod_nonneg 5 h.wide.1
  have h2 := Int.tmod_lt_of_pos L.wide (show (0 : Int) < 5 by decide)
  unfold Land.w; omega
theorem Land.Ok.h {L : Land} (h : L.Ok) : 1 ≤ L.h ∧ L.h ≤ 5 := by
  have h1 := Int.tmod_nonneg 5 h.high.1
  have h2 := Int.tmod_lt_of_pos L.high (show (0 : Int) < 5 by decide)
  unfold Land.h; omega
theorem Land.Ok.n {L : Land} (h : L.Ok) : (L.n : Int) = L.w * L.h ∧ 1 ≤ L.n ∧ L.n ≤ 25 := by
  have a := Int.mul_le_mul h.w.1 h.h.1 (by decide) (by have := h.w; omega)
  have b := Int.mul_le_mul h.w.2 h.h.2 (by have := h.h; omega) (by decide)
  unfold Land.n; omega
section
variable {g : Nat} {rd : Option Nat} {T : List Value} {D : List Nat} {A : Hp} {Q : Ex → St → Prop} {V : Value → Hp → Prop}
theorem loop310 {A0 : Hp} {L : Land} {sl sm : Value} {XL X3 N : Nat} (hO : L.Ok) (hat : L.At A0 sl sm) (hXL : A0.get XL = some (.cells [.int .u8 L.wide, .int .u8 L.high, sl, sm] false)) (hN : A0.n = N) (hX3 : X3 < N) (hg3 : g ≤ X3) (hg : g ≤ N) (hne : XL ≠ X3) (hsl3 : ∀ z, blkOf sl = some z → z ≠ X3) (hsm3 : ∀ z, blkOf sm = some z → z ≠ X3)
    (hQ : ∀ T' A' sv, But X3 A0 A' → A'.get X3 = some (.cells [.int .i64 L.w, .int .i64 L.h, .int .i64 100, sv] false) → AccS N A' 2 (ints (L.zs L.n)) sv → tget T' 2 = tget T 2 → tget T' 3 = .pointer (some ⟨X3, 0, none⟩) → Q (.exit 0) ⟨T', D, A'⟩) :
    ∀ (k i : Nat) {T1 : List Value} {A : Hp} (sv : Value), i + k = L.n → But X3 A0 A → A.get X3 = some (.cells [.int .i64 L.w, .int .i64 L.h, .int .i64 100, sv] false) → AccS N A 2 (ints (L.zs i)) sv → tget T1 2 = tget T 2 →
      tget T1 1 = .pointer (some ⟨XL, 0, none⟩) → tget T1 3 = .pointer (some ⟨X3, 0, none⟩) → tget T1 21 = .int .i64 L.n → tget T1 22 = .int .i64 i → W AP KL g rd (.loop body310) ⟨T1, D, A⟩ Q := by
  intro k
  have hnb := hO.n
  have hXLn := Hp.lt_of_get hXL
  induction k with
  | zero =>
    intro i T1 A sv hi hb h3 hacc k2 t1 t3 t21 t22
    have : i = L.n := by omega
    subst this
    rw [W_loop]
    simp (disch := as_aux_lemma => first | omega | simp only [hDs] <;> omega | simp [isCell]) [hRs, takeMarks, resA, resAll, resOne, Value.cells, body310, t21, t22]
    exact hQ _ _ sv hb h3 hacc (by simp [k2]) (by simp [t3])
  | succ k ih =>
    intro i T1 A sv hi hb h3 hacc k2 t1 t3 t21 t22
    have e5 : wr .i64 ((i : Int) + 1) = ((i + 1 : Nat) : Int) := by rw [wrId (by omega) (by omega)]; simp
    have hAn := hb.1
    have aL : A.get XL = some (.cells [.int .u8 L.wide, .int .u8 L.high, sl, sm] false) := by rw [hb.2 _ hXLn hne]; exact hXL
    have hslA := hat.1.keepB (A' := A) fun z hz => hb.2 z (hat.1.blk_lt hz) (hsl3 z hz)
    have hsmA := hat.2.keepB (A' := A) fun z hz => hb.2 z (hat.2.blk_lt hz) (hsm3 z hz)
    have ll := hslA.len
    have lm := hsmA.len
    have olo : -32768 ≤ L.lo i ∧ L.lo i ≤ 32767 := by unfold Land.lo; split; exact hO.low _; omega
    obtain ⟨dd, hdd, hdd0⟩ : ∃ dd, dd = (if 0 < L.nm then gi L.more (i % L.nm) else 0) ∧ 0 ≤ dd ∧ dd ≤ 255 := ⟨_, rfl, by split; exact hO.more _; omega⟩
    have hhi : L.hi i = L.lo i + dd := by rw [Land.hi, hdd]
    have e6 : wr .i64 (L.lo i) = L.lo i := wrId (by omega) (by omega)
    have e7 : wr .i64 dd = dd := wrId (by omega) (by omega)
    have e8 : wr .i64 (L.lo i + dd) = L.lo i + dd := wrId (by omega) (by omega)
    obtain ⟨sv', A1, a1, a2, a3, a4⟩ := append_acc (g := g) (bytes := 16) (y := A.n + 1) (A := (A.push (.cells [.int .i64 (L.lo i), .int .i64 (L.lo i + dd)] false)).push (.cells [.int .i64 (L.lo i), .int .i64 (L.lo i + dd)] false)) (new := [.int .i64 (L.lo i), .int .i64 (L.lo i + dd)]) (ro := false) (n := i)
      (hacc.mono ((Ext'.push A _).trans (Ext'.push _ _)).2) (by omega) (by simp; omega) (get_push_eq (by simp)) rfl (by decide) rfl (by simp [Land.zs_len]) (by unfold room; omega)
    rw [show ints (L.zs i) ++ [.int .i64 (L.lo i), .int .i64 (L.lo i + dd)] = ints (L.zs (i + 1)) by rw [Land.zs, ints_append, hhi]; rfl] at a2
    obtain ⟨ad, nn, cc, rfl⟩ : ∃ ad nn cc, sv' = .slice ad nn cc := by rcases a2 with ⟨rfl, _⟩ | ⟨_, _, rfl, _⟩ <;> exact ⟨_, _, _, rfl⟩
    have c3 : A1.get X3 = some (.cells [.int .i64 L.w, .int .i64 L.h, .int .i64 100, sv] false) := by rw [a3 _ (by omega), get_push_old (by simp; omega), get_push_old (by omega)]; exact h3
    have hfin : ∀ T2, tget T2 2 = tget T 2 → tget T2 1 = .pointer (some ⟨XL, 0, none⟩) → tget T2 3 = .pointer (some ⟨X3, 0, none⟩) → tget T2 21 = .int .i64 L.n → tget T2 22 = .int .i64 ((i + 1 : Nat) : Int) →
        W AP KL g rd (.loop body310) ⟨T2, D, A1.set X3 (some (.cells [.int .i64 L.w, .int .i64 L.h, .int .i64 100, .slice ad nn cc] false))⟩ Q := fun T2 j2 j1 j3 j21 j22 => by
      have o1 : ∀ z, z < A1.n → z ≠ X3 → (A1.set X3 (some (.cells [.int .i64 L.w, .int .i64 L.h, .int .i64 100, .slice ad nn cc] false))).get z = A1.get z := fun z hz hzn => get_set_ne (Hp.lt_of_get c3) hzn
      refine ih (i + 1) (.slice ad nn cc) (by omega) ⟨by simp [a4]; omega, fun z hz hzn => ?_⟩ (get_set_same c3) (a2.keepB fun b hbb => o1 b (a2.blk_ge hbb).2 (by have := (a2.blk_ge hbb).1; omega)) j2 j1 j3 j21 j22
      rw [o1 z (by rw [a4]; simp; omega) hzn, a3 z (by omega), get_push_old (by simp; omega), get_push_old (by omega), hb.2 z hz hzn]
    have z1 : zeros 1 [Value.int .i64 0, .int .i64 0] = [.int .i64 0, .int .i64 0] := rfl
    rw [W_loop]
    by_cases hl : 0 < L.nl
    · have em : ((i : Int).tmod L.nl) = ((i % L.nl : Nat) : Int) := by rw [Int.tmod_eq_emod_of_nonneg (by omega)]; simp
      have hml : i % L.nl < L.nl := Nat.mod_lt _ hl
      have en : ((i : Int) % (L.nl : Int)).toNat = i % L.nl := by rw [← Int.natCast_emod]; exact Int.toNat_natCast _
      obtain ⟨xb, xc, xr, rfl, hxb⟩ := hslA.at hl
      have hxbn := Hp.lt_of_get hxb
      have elo : L.lo i = gi L.low (i % L.nl) := if_pos hl
      rw [elo] at e6 e8 a1
      by_cases hm : 0 < L.nm
      · have em2 : ((i : Int).tmod L.nm) = ((i % L.nm : Nat) : Int) := by rw [Int.tmod_eq_emod_of_nonneg (by omega)]; simp
        have hmm : i % L.nm < L.nm := Nat.mod_lt _ hm
        have en2 : ((i : Int) % (L.nm : Int)).toNat = i % L.nm := by rw [← Int.natCast_emod]; exact Int.toNat_natCast _
        obtain ⟨yb, yc, yr, rfl, hxm⟩ := hsmA.at hm
        have hxmn := Hp.lt_of_get hxm
        rw [if_pos hm] at hdd
        subst hdd
        simp (disch := as_aux_lemma => first | omega | simp only [hDs] <;> omega | simp [isCell]) [hRs, takeMarks, resA, resAll, resOne, Value.cells, body310, t1, t3, t21, t22, show ((i : Int) < L.n) by omega, fillA, storeB_cells, setRange_all, set_push_eq, aL, ll, lm, h3, idxSA_ok, setRange, slitA, z1, a1, c3, toIntA, e5, hl, binA_rem (show ((L.nl : Nat) : Int) ≠ 0 by omega), em, en, hml, hxb, kints_get (k := .i16) (show i % L.nl < L.low.length by rw [hO.nl.1]; exact hml), e6, hm, binA_rem (show ((L.nm : Nat) : Int) ≠ 0 by omega), em2, en2, hmm, hxm, kints_get (k := .u8) (show i % L.nm < L.more.length by rw [hO.nm.1]; exact hmm), e7, e8]
        exact hfin _ (by simp [k2]) (by simp [t1]) (by simp [t3]) (by simp [t21]) (by simp)
      · rw [if_neg hm] at hdd
        subst hdd
        try simp only [Int.add_zero] at a1
        simp (disch := as_aux_lemma => first | omega | simp only [hDs] <;> omega | simp [isCell]) [hRs, takeMarks, resA, resAll, resOne, Value.cells, body310, t1, t3, t21, t22, show ((i : Int) < L.n) by omega, fillA, storeB_cells, setRange_all, set_push_eq, aL, ll, lm, h3, idxSA_ok, setRange, slitA, z1, a1, c3, toIntA, e5, hl, binA_rem (show ((L.nl : Nat) : Int) ≠ 0 by omega), em, en, hml, hxb, kints_get (k := .i16) (show i % L.nl < L.low.length by rw [hO.nl.1]; exact hml), e6, hm, show L.nm = 0 by omega]
        exact hfin _ (by simp [k2]) (by simp [t1]) (by simp [t3]) (by simp [t21]) (by simp)
    · have elo : L.lo i = 0 := if_neg hl
      rw [elo] at e6 e8 a1
      simp only [Int.zero_add] at e8 a1
      by_cases hm : 0 < L.nm
      · have em2 : ((i : Int).tmod L.nm) = ((i % L.nm : Nat) : Int) := by rw [Int.tmod_eq_emod_of_nonneg (by omega)]; simp
        have hmm : i % L.nm < L.nm := Nat.mod_lt _ hm
        have en2 : ((i : Int) % (L.nm : Int)).toNat = i % L.nm := by rw [← Int.natCast_emod]; exact Int.toNat_natCast _
        obtain ⟨yb, yc, yr, rfl, hxm⟩ := hsmA.at hm
        have hxmn := Hp.lt_of_get hxm
        rw [if_pos hm] at hdd
        subst hdd
        simp (disch := as_aux_lemma => first | omega | simp only [hDs] <;> omega | simp [isCell]) [hRs, takeMarks, resA, resAll, resOne, Value.cells, body310, t1, t3, t21, t22, show ((i : Int) < L.n) by omega, fillA, storeB_cells, setRange_all, set_push_eq, aL, ll, lm, h3, idxSA_ok, setRange, slitA, z1, a1, c3, toIntA, e5, hl, show L.nl = 0 by omega, hm, binA_rem (show ((L.nm : Nat) : Int) ≠ 0 by omega), em2, en2, hmm, hxm, kints_get (k := .u8) (show i % L.nm < L.more.length by rw [hO.nm.1]; exact hmm), e7, e8]
        exact hfin _ (by simp [k2]) (by simp [t1]) (by simp [t3]) (by simp [t21]) (by simp)
      · rw [if_neg hm] at hdd
        subst hdd
        try simp only [Int.add_zero] at a1
        simp (disch := as_aux_lemma => first | omega | simp only [hDs] <;> omega | simp [isCell]) [hRs, takeMarks, resA, resAll, resOne, Value.cells, body310, t1, t3, t21, t22, show ((i : Int) < L.n) by omega, fillA, storeB_cells, setRange_all, set_push_eq, aL, ll, lm, h3, idxSA_ok, setRange, slitA, z1, a1, c3, toIntA, e5, hl, show L.nl = 0 by omega, hm, show L.nm = 0 by omega]
        exact hfin _ (by simp [k2]) (by simp [t1]) (by simp [t3]) (by simp [t21]) (by simp)
theorem w310 {L : Land} {sl sm : Value} (hO : L.Ok) (hat : L.At A sl sm) (hg : g ≤ A.n) (hV : ∀ A' v, Ext' A A' → GAt A' L.G v → V v A') : WF AP KL g 310 [L.V sl sm] A V := by
  obtain ⟨pl, cl, rfl⟩ := hat.1.isSlice'
  obtain ⟨pm, cm, rfl⟩ := hat.2.isSlice'
  have hnb := hO.n
  have hw := hO.w
  have hh := hO.h
  rw [WF_body (show KL 310 = none from rfl) (show AP 310 = some F310 from rfl)]
  have ew : wr .i64 L.wide = L.wide := wrId (by have := hO.wide; omega) (by have := hO.wide; omega)
  have eh : wr .i64 L.high = L.high := wrId (by have := hO.high; omega) (by have := hO.high; omega)
  have e1 : wr .i64 (1 + L.wide.tmod 5) = L.w := by show _ = 1 + L.wide.tmod 5; exact wrId (by have := hw; unfold Land.w at this; omega) (by have := hw; unfold Land.w at this; omega)
  have e2 : wr .i64 (1 + L.high.tmod 5) = L.h := by show _ = 1 + L.high.tmod 5; exact wrId (by have := hh; unfold Land.h at this; omega) (by have := hh; unfold Land.h at this; omega)
  have e3 : wr .i64 (L.w * L.h) = (L.n : Int) := by rw [← hnb.1]; exact wrId (by omega) (by omega)
  obtain ⟨B, hB⟩ : ∃ B, B = ((A.push (.cells [.int .u8 L.wide, .int .u8 L.high, .slice pl L.nl cl, .slice pm L.nm cm] false)).push zeroG).push (.cells [.int .i64 L.w, .int .i64 L.h, .int .i64 100, .slice none 0 0] false) := ⟨_, rfl⟩
  have eB : Ext' A B := by rw [hB]; exact ((Ext'.push _ _).trans (Ext'.push _ _)).trans (Ext'.push _ _)
  have nB : B.n = A.n + 3 := by rw [hB]; rfl
  have b0 : B.get A.n = some (.cells [.int .u8 L.wide, .int .u8 L.high, .slice pl L.nl cl, .slice pm L.nm cm] false) := by rw [hB, get_push_old (by simp; omega), get_push_old (by simp), get_push_eq (by omega)]
  have b1 : B.get (A.n + 1) = some zeroG := by rw [hB, get_push_old (by simp), get_push_eq (by simp)]
  have b2 : B.get (A.n + 2) = some (.cells [.int .i64 L.w, .int .i64 L.h, .int .i64 100, .slice none 0 0] false) := by rw [hB, get_push_eq (by simp)]
  unfold zeroG at hB
  simp (disch := as_aux_lemma => first | omega | simp only [hDs] <;> omega | simp [isCell]) [hRs, takeMarks, resA, resAll, resOne, Value.cells, F310, Land.V, toIntA, ew, eh, binA_rem (show (5 : Int) ≠ 0 by decide), e1, e2, e3, fillA, setRange, storeB_cells, set_push_eq, setRange_all, ← hB, b2]
  refine loop310 (A0 := B) (L := L) (XL := A.n) (X3 := A.n + 2) (N := B.n) hO ⟨eB.rdS hat.1, eB.rdS hat.2⟩ b0 rfl (by omega) (by omega) (by omega) (by omega) (fun z hz => by have := hat.1.blk_lt hz; omega) (fun z hz => by have := hat.2.blk_lt hz; omega)
    (fun T' A' sv hb h3 hacc k2 t3 => ?_) L.n 0 (.slice none 0 0) (by omega) (But.of_ext ⟨Nat.le_refl _, fun _ _ => rfl⟩) b2 AccS.nil rfl ?_ ?_ ?_ ?_
  · simp at k2
    have hn := hb.1
    have c1 : A'.get (A.n + 1) = some zeroG := by rw [hb.2 _ (by omega) (by omega)]; exact b1
    obtain ⟨ad, nn, cc, rfl⟩ : ∃ ad nn cc, sv = .slice ad nn cc := by rcases hacc with ⟨rfl, _⟩ | ⟨_, _, rfl, _⟩ <;> exact ⟨_, _, _, rfl⟩
    simp (disch := as_aux_lemma => first | omega | simp only [hDs] <;> omega | simp [isCell]) [hRs, takeMarks, resA, resAll, resOne, Value.cells, k2, t3, h3, c1, storeB_cells, setRange_all, get_set_same c1]
    have o1 : ∀ (b : Option ABlk) z, z ≠ A.n + 1 → (A'.set (A.n + 1) b).get z = A'.get z := fun b z hz => get_set_ne (by omega) hz
    refine hV _ _ ⟨by simp; omega, fun z hz => by rw [o1 _ z (by omega), hb.2 z (by omega) (by omega), eB.2 z hz]⟩ ⟨_, rfl, ?_⟩
    have hacc' := hacc.keepB (A' := A'.set (A.n + 1) (some (.cells [.int .i64 L.w, .int .i64 L.h, .int .i64 100, .slice ad nn cc] false))) fun b hbb => o1 _ b (by have := (hacc.blk_ge hbb).1; omega)
    obtain ⟨q, hq⟩ := hacc'.rdS
    have : q = L.n := by have := hq.1; simp [Land.zs_len] at this; omega
    subst this
    exact hq
  · simp
  · simp
  · simp
  · simp
end
end Go.Ab.Grid
