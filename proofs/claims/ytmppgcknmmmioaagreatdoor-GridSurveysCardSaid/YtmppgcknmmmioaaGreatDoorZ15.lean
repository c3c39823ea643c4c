/- Measure: the document's. -/
import Derived.Test.YtmppgcknmmmioaaGreatDoorZ14
set_option linter.unusedSimpArgs false
set_option linter.unusedVariables false
set_option linter.unusedSectionVars false
set_option maxRecDepth 100000
namespace Go.Ab.Grid
open Go Go.Ab
structure G where
  w : Int
  h : Int
  s : Int
  m : Nat
  zs : List Int
def G0 : G := ⟨0, 0, 0, 0, []⟩
def G.E (x : G) : Int := gridE x.w x.h x.s x.m x.zs
def GAt (A : Hp) (x : G) (v : Value) : Prop := ∃ sl, v = gridV x.w x.h x.s sl ∧ RdS A 2 x.m (ints x.zs) sl
theorem GAt.mono {A A' : Hp} {x : G} {v : Value} (h : GAt A x v) (e : Ext' A A') : GAt A' x v := by
  obtain ⟨sl, h1, h2⟩ := h; exact ⟨sl, h1, e.rdS h2⟩
theorem GAt.zero {A : Hp} : GAt A G0 (gridV 0 0 0 (.slice none 0 0)) := ⟨_, rfl, by simp [G0, ints], .inl ⟨rfl, rfl⟩⟩
theorem eqv2 {a b a' b' : Int} : eqvA true [false, false] (.agg ⟨[.int .i64 a, .int .i64 b]⟩) (.agg ⟨[.int .i64 a', .int .i64 b']⟩) = some (.bool (!(decide (a = a') && decide (b = b')))) := by
  simp [eqvA, eqCells, cellEq, kEq]
  rfl
theorem copy_fresh {g k bytes m : Nat} {A : Hp} {cs : List Value} {src : Value} (h : RdS A k m cs src) (hcell : cs.all isCell = true) (hg : g ≤ A.n) (hk : 0 < k) (hr : m * bytes ≤ room ∧ m ≤ room) :
    ∃ Y c A', appendA g (A.push (.cells [] false)) k bytes (.slice (some ⟨A.n, 0, some k⟩) 0 0) src = some (.slice (some ⟨Y, 0, some k⟩) m c, A') ∧ Ext' A A' ∧ A'.get Y = some (.cells cs false) ∧ A.n ≤ Y := by
  have e1 := Ext'.push A (.cells [] false)
  have hc := (h.push (x := .cells [] false)).cellsAt
  obtain ⟨p, c, rfl⟩ : ∃ p c, src = .slice p m c := by rcases h with ⟨_, ⟨rfl, rfl⟩ | ⟨_, _, _, rfl, _⟩⟩ <;> exact ⟨_, _, rfl⟩
  unfold appendA
  simp only [hc]
  rw [if_pos ⟨hcell, hk⟩]
  by_cases hm : m = 0
  · subst hm
    rw [if_pos rfl]
    refine ⟨_, _, _, rfl, e1, ?_, Nat.le_refl _⟩
    have : cs = [] := List.eq_nil_of_length_eq_zero (by have := h.1; simpa using this)
    rw [get_push_new, this]
  · rw [if_neg hm]
    simp only [get_push_new]
    rw [if_pos ⟨hg, by simpa using hr.1, by simpa using hr.2, trivial⟩, if_pos (by simp)]
    refine ⟨A.n + 1, m, ((A.push (.cells [] false)).set A.n none).push (.cells cs false), by simp, ⟨by simp; omega, fun z hz => ?_⟩, by rw [get_push_eq (by simp)], by omega⟩
    rw [get_push_old (by simp; omega), get_set_ne (by simp) (by omega), get_push_old hz]
section
variable {g : Nat} {rd : Option Nat} {T : List Value} {D : List Nat} {A : Hp} {Q : Ex → St → Prop} {V : Value → Hp → Prop}
theorem loop294 {n : Nat} {a b : List Int} {x y : Value} (ha : RdS A 2 n (ints a) x) (hb : RdS A 2 n (ints b) y) (hn : n < 1000000)
    (hQ : ∀ T', a = b → Q (.exit 0) ⟨T', D, A⟩) (hR : ∀ T', a ≠ b → tget T' 4 = .bool false → Q .ret ⟨T', D, A⟩) :
    ∀ (k i : Nat) {T : List Value}, i + k = n → (∀ j, j < i * 2 → gi a j = gi b j) → tget T 0 = x → tget T 1 = y → tget T 5 = .int .i64 i → W AP KL g rd (.loop body294) ⟨T, D, A⟩ Q := by
  intro k
  have la : a.length = n * 2 := by have := ha.1; simpa using this
  have lb : b.length = n * 2 := by have := hb.1; simpa using this
  have hl := ha.len
  induction k with
  | zero =>
    intro i T hi hp t0 t1 t5
    rw [W_loop]
    simp (disch := as_aux_lemma => first | omega | simp only [hDs] <;> omega | simp [isCell]) [hRs, takeMarks, resA, resAll, resOne, Value.cells, body294, t0, t1, t5, hl, show ¬ ((i : Int) < n) by omega]
    exact hQ _ (list_gi (by omega) fun j hj => hp j (by omega))
  | succ k ih =>
    intro i T hi hp t0 t1 t5
    have e5 : wr .i64 ((i : Int) + 1) = ((i + 1 : Nat) : Int) := by rw [wrId (by omega) (by omega)]; simp
    obtain ⟨xb, xc, xr, rfl, hxb⟩ := ha.at (show i < n by omega)
    obtain ⟨yb, yc, yr, rfl, hyb⟩ := hb.at (show i < n by omega)
    rw [W_loop]
    by_cases he : gi a (i * 2) = gi b (i * 2) ∧ gi a (i * 2 + 1) = gi b (i * 2 + 1)
    · simp (disch := as_aux_lemma => first | omega | simp only [hDs] <;> omega | simp [isCell]) [hRs, takeMarks, resA, resAll, resOne, Value.cells, body294, t0, t1, t5, hl, show ((i : Int) < n) by omega, show i < n by omega, idxSA_ok, hxb, hyb, ints_two, la, lb, he.1, he.2, e5, eqv2]
      refine ih (i + 1) (by omega) (fun j hj => ?_) ?_ ?_ ?_
      · by_cases h : j = i * 2
        · rw [h]; exact he.1
        · by_cases h' : j = i * 2 + 1
          · rw [h']; exact he.2
          · exact hp j (by omega)
      all_goals simp [t0, t1]
    · have hne : a ≠ b := fun h => he (by rw [h]; exact ⟨rfl, rfl⟩)
      have hd : (decide (gi a (i * 2) = gi b (i * 2)) && decide (gi a (i * 2 + 1) = gi b (i * 2 + 1))) = false := by simpa using he
      have hd' : (!decide (gi a (i * 2) = gi b (i * 2)) || !decide (gi a (i * 2 + 1) = gi b (i * 2 + 1))) = true := by rw [← Bool.not_and, hd]; rfl
      simp (disch := as_aux_lemma => first | omega | simp only [hDs] <;> omega | simp [isCell]) [hRs, takeMarks, resA, resAll, resOne, Value.cells, body294, t0, t1, t5, hl, show ((i : Int) < n) by omega, show i < n by omega, idxSA_ok, hxb, hyb, ints_two, la, lb, hd, hd', e5, eqv2]
      exact hR _ hne (by simp)
theorem w294 {na nb : Nat} {a b : List Int} {x y : Value} (ha : RdS A 2 na (ints a) x) (hb : RdS A 2 nb (ints b) y) (hn : na < 1000000) (hV : V (.bool (decide (a = b))) A) : WF AP KL g 294 [x, y] A V := by
  rw [WF_body (show KL 294 = none from rfl) (show AP 294 = some F294 from rfl)]
  have la : a.length = na * 2 := by have := ha.1; simpa using this
  have lb : b.length = nb * 2 := by have := hb.1; simpa using this
  have h1 := ha.len
  have h2 := hb.len
  by_cases he : na = nb
  · subst he
    simp (disch := as_aux_lemma => first | omega | simp only [hDs] <;> omega | simp [isCell]) [hRs, takeMarks, resA, resAll, resOne, Value.cells, F294, h1, h2]
    refine loop294 ha hb hn (fun T' he' => ?_) (fun T' he' t4 => ?_) na 0 (by omega) (fun j hj => by omega) ?_ ?_ ?_
    · simp (disch := as_aux_lemma => first | omega | simp only [hDs] <;> omega | simp [isCell]) [hRs, takeMarks, resA, resAll, resOne, Value.cells, he']
      simpa [he'] using hV
    · simp (disch := as_aux_lemma => first | omega | simp only [hDs] <;> omega | simp [isCell]) [hRs, takeMarks, resA, resAll, resOne, Value.cells, t4]
      simpa [he'] using hV
    all_goals simp
  · simp (disch := as_aux_lemma => first | omega | simp only [hDs] <;> omega | simp [isCell]) [hRs, takeMarks, resA, resAll, resOne, Value.cells, F294, h1, h2, show ¬ ((na : Int) = nb) by omega]
    have : a ≠ b := fun h => he (by rw [h] at la; omega)
    simpa [this] using hV
theorem w301 {x y : G} {vx vy : Value} (hx : GAt A x vx) (hy : GAt A y vy) (hn : x.m < 1000000) (he : x = y) (hV : ∀ A', Ext' A A' → V (.bool true) A') : WF AP KL g 301 [vx, vy] A V := by
  subst he
  obtain ⟨sx, rfl, rx⟩ := hx
  obtain ⟨sy, rfl, ry⟩ := hy
  rw [WF_body (show KL 301 = none from rfl) (show AP 301 = some F301 from rfl)]
  have e1 : Ext' A ((A.push (.cells [.int .i64 x.w, .int .i64 x.h, .int .i64 x.s, sx] false)).push (.cells [.int .i64 x.w, .int .i64 x.h, .int .i64 x.s, sy] false)) := (Ext'.push _ _).trans (Ext'.push _ _)
  simp (disch := as_aux_lemma => first | omega | simp only [hDs] <;> omega | simp [isCell]) [hRs, takeMarks, resA, resAll, resOne, Value.cells, F301, gridV]
  refine w294 (e1.rdS rx) (e1.rdS ry) hn ?_
  simp (disch := as_aux_lemma => first | omega | simp only [hDs] <;> omega | simp [isCell]) [hRs, takeMarks, resA, resAll, resOne, Value.cells]
  exact hV _ e1
theorem w327 {a b c d : Int} (hg : g ≤ A.n) (hV : ∀ A', Ext' A A' → V (.tuple ⟨[.agg ⟨[.int .i64 (max a c), .int .i64 (min b d)]⟩, .bool (decide (max a c ≤ min b d))]⟩) A') :
    WF AP KL g 327 [.agg ⟨[.int .i64 a, .int .i64 b]⟩, .agg ⟨[.int .i64 c, .int .i64 d]⟩] A V := by
  rw [WF_body (show KL 327 = none from rfl) (show AP 327 = some F327 from rfl)]
  simp (disch := as_aux_lemma => first | omega | simp only [hDs] <;> omega | simp [isCell]) [hRs, takeMarks, resA, resAll, resOne, Value.cells, F327, fillA, setRange, storeB_cells, set_push_eq, setRange_all, apartA]
  exact hV _ ((((Ext'.push _ _).trans (Ext'.push _ _)).trans (Ext'.push _ _)).trans (Ext'.push _ _))
theorem w161 {m : Nat} {zs : List Int} {sl : Value} (hsl : RdS A 2 m (ints zs) sl) (h0 : 0 < m) (hm : m < 1000000) (hg : g ≤ A.n)
    (hV : ∀ A' Y c, Ext' A A' → A.n ≤ Y → A'.get Y = some (.cells (ints zs) false) → V (.slice (some ⟨Y, 0, some 2⟩) m c) A') : WF AP KL g 161 [sl] A V := by
  rw [WF_body (show KL 161 = none from rfl) (show AP 161 = some F161 from rfl)]
  obtain ⟨xb, xc, xr, hs, hxb⟩ := hsl.at h0
  obtain ⟨Y, c, A', h1, e1, hY, hAY⟩ := copy_fresh (g := g) (bytes := 16) hsl (ints_isCell _) hg (by decide) (by unfold room; omega)
  subst hs
  simp (disch := as_aux_lemma => first | omega | simp only [hDs] <;> omega | simp [isCell]) [hRs, takeMarks, resA, resAll, resOne, Value.cells, F161, eqNilA, isNil, slitA, zeros, fillA, h1]
  exact hV _ _ _ e1 hAY hY
def OwnV (V : Value → Hp → Prop) (A : Hp) (w h s : Int) (m : Nat) (zs : List Int) : Prop :=
  ∀ A' Y c, Ext' A A' → A.n ≤ Y → A'.get Y = some (.cells (ints zs) false) → V (gridV w h s (.slice (some ⟨Y, 0, some 2⟩) m c)) A'
theorem w326 {w h s : Int} {m : Nat} {zs : List Int} {sl : Value} (hsl : RdS A 2 m (ints zs) sl) (h0 : 0 < m) (hm : m < 1000000) (hg : g ≤ A.n) (hV : OwnV V A w h s m zs) : WF AP KL g 326 [gridV w h s sl] A V := by
  rw [WF_body (show KL 326 = none from rfl) (show AP 326 = some F326 from rfl)]
  obtain ⟨B, hB⟩ : ∃ B, B = (A.push (.cells [.int .i64 w, .int .i64 h, .int .i64 s, sl] false)).push (.cells [.int .i64 0, .int .i64 0, .int .i64 0, .slice none 0 0] false) := ⟨_, rfl⟩
  have eB : Ext' A B := by rw [hB]; exact (Ext'.push _ _).trans (Ext'.push _ _)
  have nB : B.n = A.n + 2 := by rw [hB]; rfl
  have b0 : B.get A.n = some (.cells [.int .i64 w, .int .i64 h, .int .i64 s, sl] false) := by rw [hB, get_push_old (by simp), get_push_eq (by omega)]
  have b1 : B.get (A.n + 1) = some (.cells [.int .i64 0, .int .i64 0, .int .i64 0, .slice none 0 0] false) := by rw [hB, get_push_eq (by simp)]
  simp (disch := as_aux_lemma => first | omega | simp only [hDs] <;> omega | simp [isCell]) [hRs, takeMarks, resA, resAll, resOne, Value.cells, F326, gridV, ← hB, b0]
  refine w161 (eB.rdS hsl) h0 hm (by omega) fun A' Y c e' hAY hY => ?_
  have c0 := e'.get b0
  have c1 := e'.get b1
  have n' := e'.1
  obtain ⟨C, hC⟩ : ∃ C, C = A'.set A.n (some (.cells [.int .i64 w, .int .i64 h, .int .i64 s, .slice (some ⟨Y, 0, some 2⟩) m c] false)) := ⟨_, rfl⟩
  have d0 : C.get A.n = some (.cells [.int .i64 w, .int .i64 h, .int .i64 s, .slice (some ⟨Y, 0, some 2⟩) m c] false) := by rw [hC]; exact get_set_same c0
  have oC : ∀ z, z < A'.n → z ≠ A.n → C.get z = A'.get z := fun z hz hn => by rw [hC]; exact get_set_ne (by omega) hn
  have d1 : C.get (A.n + 1) = some (.cells [.int .i64 0, .int .i64 0, .int .i64 0, .slice none 0 0] false) := by rw [oC _ (by omega) (by omega)]; exact c1
  have nC : C.n = A'.n := by rw [hC]; rfl
  simp (disch := as_aux_lemma => first | omega | simp only [hDs] <;> omega | simp [isCell]) [hRs, takeMarks, resA, resAll, resOne, Value.cells, c0, storeB_cells, setRange, ← hC, d0, d1, setRange_all, get_set_same d1]
  have oD : ∀ z, z < A'.n → z ≠ A.n → z ≠ A.n + 1 → (C.set (A.n + 1) (some (.cells [.int .i64 w, .int .i64 h, .int .i64 s, .slice (some ⟨Y, 0, some 2⟩) m c] false))).get z = A'.get z := fun z hz h1 h2 => by rw [get_set_ne (by omega) h2, oC z hz h1]
  have hYn := Hp.lt_of_get hY
  exact hV _ Y c ⟨by simp; omega, fun z hz => by rw [oD z (by omega) (by omega) (by omega), e'.2 z (by omega), eB.2 z hz]⟩ (by omega) (by rw [oD Y hYn (by omega) (by omega)]; exact hY)
theorem w328 {w h s : Int} {m : Nat} {zs : List Int} {sl : Value} (hsl : RdS A 2 m (ints zs) sl) (hm : m < 1000000) (hg : g ≤ A.n) (hV : OwnV V A w h s m zs) : WF AP KL g 328 [gridV w h s sl] A V := by
  rw [WF_body (show KL 328 = none from rfl) (show AP 328 = some F328 from rfl)]
  obtain ⟨B, hB⟩ : ∃ B, B = (A.push (.cells [.int .i64 w, .int .i64 h, .int .i64 s, sl] false)).push (.cells [.int .i64 0, .int .i64 0, .int .i64 0, .slice none 0 0] false) := ⟨_, rfl⟩
  have eB : Ext' A B := by rw [hB]; exact (Ext'.push _ _).trans (Ext'.push _ _)
  have nB : B.n = A.n + 2 := by rw [hB]; rfl
  have b0 : B.get A.n = some (.cells [.int .i64 w, .int .i64 h, .int .i64 s, sl] false) := by rw [hB, get_push_old (by simp), get_push_eq (by omega)]
  have b1 : B.get (A.n + 1) = some (.cells [.int .i64 0, .int .i64 0, .int .i64 0, .slice none 0 0] false) := by rw [hB, get_push_eq (by simp)]
  obtain ⟨Y, c, A', h1, e', hY, hAY⟩ := copy_fresh (g := g) (bytes := 16) (eB.rdS hsl) (ints_isCell _) (by omega) (by decide) (by unfold room; omega)
  have c0 := e'.get b0
  have c1 := e'.get b1
  have n' := e'.1
  obtain ⟨C, hC⟩ : ∃ C, C = A'.set A.n (some (.cells [.int .i64 w, .int .i64 h, .int .i64 s, .slice (some ⟨Y, 0, some 2⟩) m c] false)) := ⟨_, rfl⟩
  have d0 : C.get A.n = some (.cells [.int .i64 w, .int .i64 h, .int .i64 s, .slice (some ⟨Y, 0, some 2⟩) m c] false) := by rw [hC]; exact get_set_same c0
  have oC : ∀ z, z < A'.n → z ≠ A.n → C.get z = A'.get z := fun z hz hn => by rw [hC]; exact get_set_ne (by omega) hn
  have d1 : C.get (A.n + 1) = some (.cells [.int .i64 0, .int .i64 0, .int .i64 0, .slice none 0 0] false) := by rw [oC _ (by omega) (by omega)]; exact c1
  have nC : C.n = A'.n := by rw [hC]; rfl
  simp (disch := as_aux_lemma => first | omega | simp only [hDs] <;> omega | simp [isCell]) [hRs, takeMarks, resA, resAll, resOne, Value.cells, F328, gridV, ← hB, b0, slitA, zeros, fillA, h1, c0, storeB_cells, setRange, ← hC, d0, d1, setRange_all, get_set_same d1]
  have oD : ∀ z, z < A'.n → z ≠ A.n → z ≠ A.n + 1 → (C.set (A.n + 1) (some (.cells [.int .i64 w, .int .i64 h, .int .i64 s, .slice (some ⟨Y, 0, some 2⟩) m c] false))).get z = A'.get z := fun z hz h1 h2 => by rw [get_set_ne (by omega) h2, oC z hz h1]
  have hYn := Hp.lt_of_get hY
  exact hV _ Y c ⟨by simp; omega, fun z hz => by rw [oD z (by omega) (by omega) (by omega), e'.2 z (by omega), eB.2 z hz]⟩ (by omega) (by rw [oD Y hYn (by omega) (by omega)]; exact hY)
end
end Go.Ab.Grid
set_option maxRecDepth 100000
namespace Go.Ab.Grid
open Go Go.Ab
def meetZ (cur : List Int) (i : Nat) (lo hi : Int) : Option (List Int) :=
  if max (gi cur (i * 2)) lo ≤ min (gi cur (i * 2 + 1)) hi then some ((cur.set (i * 2) (max (gi cur (i * 2)) lo)).set (i * 2 + 1) (min (gi cur (i * 2 + 1)) hi)) else none
def goM (step : Nat → List Int → Option (List Int)) : Nat → Nat → List Int → Except Nat (List Int)
  | 0, _, cur => .ok cur
  | k + 1, i, cur => match step i cur with
    | some cur' => goM step k (i + 1) cur'
    | none => .error i
def narStep (ys : List Int) (i : Nat) (cur : List Int) : Option (List Int) := meetZ cur i (gi ys (i * 2)) (gi ys (i * 2 + 1))
def outG (x : G) : Except Nat (List Int) → G × Int × Int
  | .ok l => ({ x with zs := l }, 0, 0)
  | .error i => (G0, i, 14)
def sameSides (x y : G) : Bool := decide (x.w = y.w) && decide (x.h = y.h) && decide (x.s = y.s)
def narF (x y : G) : G × Int × Int :=
  if x.E = 0 then if y.E = 0 then if sameSides x y = true then outG x (goM (narStep y.zs) y.m 0 x.zs) else (G0, 0, 11) else (G0, 0, y.E) else (G0, 0, x.E)
def GV3 (A : Hp) (r : G × Int × Int) (v : Value) : Prop := ∃ vg, v = .tuple ⟨[vg, .int .i64 r.2.1, .int .i64 r.2.2]⟩ ∧ GAt A r.1 vg
theorem setRange_two {cur : List Int} {i : Nat} {a b : Int} (h : i * 2 + 2 ≤ cur.length) : setRange (ints cur) (i * 2) [.int .i64 a, .int .i64 b] = ints ((cur.set (i * 2) a).set (i * 2 + 1) b) := by
  have hl : (ints cur).length = cur.length := by simp
  have e1 : ints ((cur.set (i * 2) a).set (i * 2 + 1) b) = ((ints cur).set (i * 2) (.int .i64 a)).set (i * 2 + 1) (.int .i64 b) := by simp [ints, List.map_set]
  rw [e1]
  generalize ints cur = l at hl ⊢
  apply List.ext_getElem?
  intro j
  simp only [setRange, List.length_cons, List.length_nil]
  rw [List.getElem?_set, List.getElem?_set, List.append_assoc]
  by_cases h1 : j < i * 2
  · rw [List.getElem?_append_left (by simp; omega), List.getElem?_take_of_lt h1, if_neg (by omega), if_neg (by omega)]
  · rw [List.getElem?_append_right (by simp; omega)]
    have ht : (l.take (i * 2)).length = i * 2 := by simp; omega
    rw [ht]
    by_cases h2 : j = i * 2
    · subst h2
      simp [show i * 2 < l.length by omega]
    · by_cases h3 : j = i * 2 + 1
      · subst h3
        simp [show i * 2 + 1 < l.length by omega]
      · obtain ⟨q, rfl⟩ : ∃ q, j = i * 2 + 2 + q := ⟨j - (i * 2 + 2), by omega⟩
        rw [if_neg (by omega), if_neg (by omega), show i * 2 + 2 + q - i * 2 = q + 2 by omega]
        simp [List.getElem?_drop]
theorem _root_.Go.Ab.RdS.isSlice' {A : Hp} {k n : Nat} {cs : List Value} {sv : Value} (h : RdS A k n cs sv) : ∃ p c, sv = .slice p n c := by
  rcases h with ⟨_, ⟨rfl, rfl⟩ | ⟨_, _, _, rfl, _⟩⟩ <;> exact ⟨_, _, rfl⟩
theorem set_same {A : Hp} {x : Nat} {b : ABlk} (h : A.get x = some b) : Ext' A (A.set x (some b)) := by
  have hn := Hp.lt_of_get h
  refine ⟨by simp, fun z hz => ?_⟩
  by_cases hzx : z = x
  · subst hzx; rw [get_set_same h, h]
  · exact get_set_ne hn hzx
abbrev zeroG : ABlk := .cells [.int .i64 0, .int .i64 0, .int .i64 0, .slice none 0 0] false
section
variable {g : Nat} {rd : Option Nat} {T : List Value} {D : List Nat} {A : Hp} {Q : Ex → St → Prop} {V : Value → Hp → Prop}
theorem loop299 {A0 : Hp} {X4 X10 Y c m : Nat} {w h s : Int} {ys : List Int} {sl : Value} (hsl : RdS A0 2 m (ints ys) sl) (hm : m < 1000000) (hY : ∀ z, blkOf sl = some z → z ≠ Y) (hYn : Y < A0.n) (hgY : g ≤ Y) (hg4 : g ≤ X4) (hX4 : X4 ≠ Y) (hX10 : X10 ≠ Y)
    (h4 : A0.get X4 = some zeroG) (h10 : A0.get X10 = some (.cells [.int .i64 w, .int .i64 h, .int .i64 s, .slice (some ⟨Y, 0, some 2⟩) m c] false))
    {r : Except Nat (List Int)}
    (hQ : ∀ T' A' cur, r = .ok cur → But Y A0 A' → A'.get Y = some (.cells (ints cur) false) → cur.length = m * 2 → tget T' 4 = .pointer (some ⟨X4, 0, none⟩) → tget T' 10 = .pointer (some ⟨X10, 0, none⟩) → Q (.exit 2) ⟨T', D, A'⟩)
    (hR : ∀ T' A' j, r = .error j → But Y A0 A' → tget T' 4 = .pointer (some ⟨X4, 0, none⟩) → tget T' 5 = .int .i64 (j : Nat) → tget T' 6 = .int .i64 14 → Q .ret ⟨T', D, A'⟩) :
    ∀ (k i : Nat) {T : List Value} {A : Hp} (cur : List Int), i + k = m → goM (narStep ys) k i cur = r → cur.length = m * 2 → But Y A0 A → A.get Y = some (.cells (ints cur) false) →
      tget T 4 = .pointer (some ⟨X4, 0, none⟩) → tget T 10 = .pointer (some ⟨X10, 0, none⟩) → tget T 53 = sl → tget T 54 = .int .i64 m → tget T 55 = .int .i64 i → W AP KL g rd (.loop body299) ⟨T, D, A⟩ Q := by
  intro k
  have ly : ys.length = m * 2 := by have := hsl.1; simpa using this
  have hX4n := Hp.lt_of_get h4
  have hX10n := Hp.lt_of_get h10
  induction k with
  | zero =>
    intro i T A cur hi hr hc hb hA t4 t10 t53 t54 t55
    rw [W_loop]
    simp (disch := as_aux_lemma => first | omega | simp only [hDs] <;> omega | simp [isCell]) [hRs, takeMarks, resA, resAll, resOne, Value.cells, body299, t54, t55, show ¬ ((i : Int) < m) by omega]
    exact hQ _ _ cur hr.symm hb hA hc (by simp [t4]) (by simp [t10])
  | succ k ih =>
    intro i T A cur hi hr hc hb hA t4 t10 t53 t54 t55
    have e5 : wr .i64 ((i : Int) + 1) = ((i + 1 : Nat) : Int) := by rw [wrId (by omega) (by omega)]; simp
    have hAn := hb.1
    have hsA := hsl.keepB (A' := A) fun z hz => hb.2 z (hsl.blk_lt hz) (hY z hz)
    obtain ⟨yb, yc, yr, rfl, hyb⟩ := hsA.at (show i < m by omega)
    have hybn := Hp.lt_of_get hyb
    have a10 : A.get X10 = some (.cells [.int .i64 w, .int .i64 h, .int .i64 s, .slice (some ⟨Y, 0, some 2⟩) m c] false) := by rw [hb.2 _ hX10n hX10]; exact h10
    have a4 : A.get X4 = some zeroG := by rw [hb.2 _ hX4n hX4]; exact h4
    rw [W_loop]
    simp (disch := as_aux_lemma => first | omega | simp only [hDs] <;> omega | simp [isCell]) [hRs, takeMarks, resA, resAll, resOne, Value.cells, body299, t4, t10, t53, t54, t55, show ((i : Int) < m) by omega, show i < m by omega, idxSA_ok, hyb, ints_two, ly, hc, storeB_cells, setRange_all, set_push_eq, a10, hA]
    obtain ⟨C, hC⟩ : ∃ C, C = A.push (.cells [.int .i64 (gi ys (i * 2)), .int .i64 (gi ys (i * 2 + 1))] false) := ⟨_, rfl⟩
    rw [← hC]
    have eC : Ext' A C := by rw [hC]; exact Ext'.push _ _
    have nC := eC.1
    refine w327 (by rw [hC]; simp) fun A1 e1 => ?_
    have e01 := eC.trans e1
    have n1 := e01.1
    have hYA := Hp.lt_of_get hA
    unfold goM narStep meetZ at hr
    by_cases hm' : max (gi cur (i * 2)) (gi ys (i * 2)) ≤ min (gi cur (i * 2 + 1)) (gi ys (i * 2 + 1))
    · rw [if_pos hm'] at hr
      have a10' : A1.get X10 = some (.cells [.int .i64 w, .int .i64 h, .int .i64 s, .slice (some ⟨Y, 0, some 2⟩) m c] false) := e01.get a10
      have hA' := e01.get hA
      simp (disch := as_aux_lemma => first | omega | simp only [hDs] <;> omega | simp [isCell]) [hRs, takeMarks, resA, resAll, resOne, Value.cells, hm', t10, a10', storeB_cells, setRange_all, set_push_eq, show i < m by omega, idxSA_ok, hA', hc, setRange_two, t54, t55, e5]
      refine ih (i + 1) _ (by omega) hr (by simp [hc]) (hb.trans (But.trans (But.set hYA e01) (But.of_ext (Ext'.push _ _)))) ?_ ?_ ?_ ?_ ?_ ?_
      · rw [get_push_old (by simp; omega)]
        exact get_set_same hA'
      all_goals simp [t4, t10, t53, t54]
    · rw [if_neg hm'] at hr
      simp (disch := as_aux_lemma => first | omega | simp only [hDs] <;> omega | simp [isCell]) [hRs, takeMarks, resA, resAll, resOne, Value.cells, hm', t4, e01.get a4, storeB_cells, setRange_all, set_push_eq, fillA]
      refine hR _ _ i hr.symm ?_ (by simp [t4]) (by simp) (by simp)
      exact hb.trans (But.of_ext ((e01.trans (set_same (e01.get a4))).trans (Ext'.push _ _)))
theorem loop299a {A0 : Hp} {X4 R : Nat} {x y : G} {sx sy : Value} (hx : RdS A0 2 x.m (ints x.zs) sx) (hy : RdS A0 2 y.m (ints y.zs) sy) (hmx : x.m < 1000000) (hmy : y.m < 1000000) (hg4 : g ≤ X4) (h4 : A0.get X4 = some zeroG)
    (hR0 : A0.get R = some (.cells [.int .i64 x.w, .int .i64 x.h, .int .i64 x.s, sx, .int .i64 y.w, .int .i64 y.h, .int .i64 y.s, sy] false)) {T0 : List Value}
    (t4 : tget T0 4 = .pointer (some ⟨X4, 0, none⟩)) (t17 : tget T0 17 = .slice (some ⟨R, 0, some 4⟩) 2 2) (t18 : tget T0 18 = .int .i64 2) (t19 : tget T0 19 = .int .i64 0)
    (hQ : ∀ T' A', x.E = 0 → y.E = 0 → Ext' A0 A' → tget T' 4 = .pointer (some ⟨X4, 0, none⟩) → tget T' 2 = tget T0 2 → tget T' 3 = tget T0 3 → Q (.exit 0) ⟨T', D, A'⟩)
    (hR : ∀ T' A' e, e = (if x.E = 0 then y.E else x.E) → e ≠ 0 → Ext' A0 A' → tget T' 4 = .pointer (some ⟨X4, 0, none⟩) → tget T' 5 = .int .i64 0 → tget T' 6 = .int .i64 e → Q .ret ⟨T', D, A'⟩) :
    W AP KL g rd (.loop body299a) ⟨T0, D, A0⟩ Q := by
  have hX4n := Hp.lt_of_get h4
  have hRn := Hp.lt_of_get hR0
  obtain ⟨px, cx, rfl⟩ := hx.isSlice'
  obtain ⟨py, cy, rfl⟩ := hy.isSlice'
  rw [W_loop]
  simp (disch := as_aux_lemma => first | omega | simp only [hDs] <;> omega | simp [isCell]) [hRs, takeMarks, resA, resAll, resOne, Value.cells, body299a, t4, t17, t18, t19, idxSA_ok, hR0, storeB_cells, setRange_all, set_push_eq]
  refine w37 ((Ext'.push _ _).rdS hx) hmx fun A1 e1 => ?_
  have e01 := (Ext'.push A0 _).trans e1
  change Ext' A0 A1 at e01
  have n01 := e01.1
  by_cases hE : gridE x.w x.h x.s x.m x.zs = 0
  · simp (disch := as_aux_lemma => first | omega | simp only [hDs] <;> omega | simp [isCell]) [hRs, takeMarks, resA, resAll, resOne, Value.cells, hE, t18, t19, show wr .i64 1 = 1 by decide]
    rw [W_loop]
    simp (disch := as_aux_lemma => first | omega | simp only [hDs] <;> omega | simp [isCell]) [hRs, takeMarks, resA, resAll, resOne, Value.cells, body299a, t4, t17, t18, t19, idxSA_ok, e01.get hR0, storeB_cells, setRange_all, set_push_eq]
    refine w37 ((Ext'.push _ _).rdS (e01.rdS hy)) hmy fun A2 e2 => ?_
    have e02 := e01.trans ((Ext'.push A1 _).trans e2)
    change Ext' A0 A2 at e02
    have n02 := e02.1
    by_cases hE2 : gridE y.w y.h y.s y.m y.zs = 0
    · simp (disch := as_aux_lemma => first | omega | simp only [hDs] <;> omega | simp [isCell]) [hRs, takeMarks, resA, resAll, resOne, Value.cells, hE2, t18, show wr .i64 2 = 2 by decide]
      rw [W_loop]
      simp (disch := as_aux_lemma => first | omega | simp only [hDs] <;> omega | simp [isCell]) [hRs, takeMarks, resA, resAll, resOne, Value.cells, body299a, t4, t17, t18]
      exact hQ _ _ hE hE2 e02 (by simp [t4]) (by simp) (by simp)
    · simp (disch := as_aux_lemma => first | omega | simp only [hDs] <;> omega | simp [isCell]) [hRs, takeMarks, resA, resAll, resOne, Value.cells, hE2, t4, fillA, e02.get h4, storeB_cells, setRange_all]
      exact hR _ _ _ (by rw [if_pos (show x.E = 0 from hE)]; rfl) hE2 (e02.trans (set_same (e02.get h4))) (by simp [t4]) (by simp) (by simp [G.E])
  · simp (disch := as_aux_lemma => first | omega | simp only [hDs] <;> omega | simp [isCell]) [hRs, takeMarks, resA, resAll, resOne, Value.cells, hE, t4, fillA, e01.get h4, storeB_cells, setRange_all]
    exact hR _ _ _ (by rw [if_neg (show ¬ x.E = 0 from hE)]; rfl) hE (e01.trans (set_same (e01.get h4))) (by simp [t4]) (by simp) (by simp [G.E])
theorem gridE_zero {w h s : Int} {m : Nat} {zs : List Int} (h0 : gridE w h s m zs = 0) : 0 < m := by
  unfold gridE at h0
  split at h0
  · cases h0
  · rename_i hc
    split at h0
    · cases h0
    · rename_i hm
      have hm' : (m : Int) = wr .i64 (w * h) := Decidable.not_not.1 hm
      simp only [not_or, Bool.not_eq_false, Bool.and_eq_true, decide_eq_true_eq] at hc
      obtain ⟨⟨a1, a2⟩, ⟨b1, b2⟩, _⟩ := hc
      have l1 : 1 ≤ w * h := by have := Int.mul_le_mul a1 b1 (by decide) (by omega); simpa using this
      have l2 : w * h ≤ 576 := by have := Int.mul_le_mul a2 b2 (by omega) (by decide); simpa using this
      rw [wrId (by omega) (by omega)] at hm'
      omega
theorem GAt.tuple {A : Hp} {x : G} {vg : Value} {i e : Int} (h : GAt A x vg) : GV3 A (x, i, e) (.tuple ⟨[vg, .int .i64 i, .int .i64 e]⟩) := ⟨vg, rfl, h⟩
theorem w299 {x y : G} {vx vy : Value} (hx : GAt A x vx) (hy : GAt A y vy) (hmx : x.m < 1000000) (hmy : y.m < 1000000) (hg : g ≤ A.n)
    (hV : ∀ A' v, Ext' A A' → GV3 A' (narF x y) v → V v A') : WF AP KL g 299 [vx, vy] A V := by
  obtain ⟨sx, rfl, rx⟩ := hx
  obtain ⟨sy, rfl, ry⟩ := hy
  obtain ⟨px, cx, rfl⟩ := rx.isSlice'
  obtain ⟨py, cy, rfl⟩ := ry.isSlice'
  obtain ⟨sx, hsx⟩ : ∃ sx, sx = Value.slice px x.m cx := ⟨_, rfl⟩
  obtain ⟨sy, hsy⟩ : ∃ sy, sy = Value.slice py y.m cy := ⟨_, rfl⟩
  rw [WF_body (show KL 299 = none from rfl) (show AP 299 = some F299 from rfl)]
  obtain ⟨B, hB⟩ : ∃ B, B = ((A.push (.cells [.int .i64 x.w, .int .i64 x.h, .int .i64 x.s, .slice px x.m cx] false)).push (.cells [.int .i64 y.w, .int .i64 y.h, .int .i64 y.s, .slice py y.m cy] false)).push zeroG := ⟨_, rfl⟩
  have eB : Ext' A B := by rw [hB]; exact ((Ext'.push _ _).trans (Ext'.push _ _)).trans (Ext'.push _ _)
  have nB : B.n = A.n + 3 := by rw [hB]; rfl
  have b0 : B.get A.n = some (.cells [.int .i64 x.w, .int .i64 x.h, .int .i64 x.s, .slice px x.m cx] false) := by rw [hB, get_push_old (by simp; omega), get_push_old (by simp), get_push_eq (by omega)]
  have b1 : B.get (A.n + 1) = some (.cells [.int .i64 y.w, .int .i64 y.h, .int .i64 y.s, .slice py y.m cy] false) := by rw [hB, get_push_old (by simp), get_push_eq (by simp)]
  have b2 : B.get (A.n + 2) = some zeroG := by rw [hB, get_push_eq (by simp)]
  have z2 : zeros 2 [Value.int .i64 0, .int .i64 0, .int .i64 0, .slice none 0 0] = [.int .i64 0, .int .i64 0, .int .i64 0, .slice none 0 0, .int .i64 0, .int .i64 0, .int .i64 0, .slice none 0 0] := rfl
  unfold zeroG at hB
  simp (disch := as_aux_lemma => first | omega | simp only [hDs] <;> omega | simp [isCell]) [hRs, takeMarks, resA, resAll, resOne, Value.cells, F299, gridV, ← hB, b0, b1, slitA, fillA, setRange, z2]
  obtain ⟨C, hC⟩ : ∃ C, C = B.push (.cells [.int .i64 x.w, .int .i64 x.h, .int .i64 x.s, .slice px x.m cx, .int .i64 y.w, .int .i64 y.h, .int .i64 y.s, .slice py y.m cy] false) := ⟨_, rfl⟩
  rw [← hC]
  have eC : Ext' B C := by rw [hC]; exact Ext'.push _ _
  have e0 := eB.trans eC
  have nC : C.n = A.n + 4 := by rw [hC]; simp [nB]
  refine loop299a (X4 := A.n + 2) (R := B.n) (x := x) (y := y) (e0.rdS rx) (e0.rdS ry) hmx hmy (by omega) (eC.get b2) (by rw [hC]; exact get_push_eq (by omega)) ?_ ?_ ?_ ?_ (fun T1 A1 hE1 hE2 e1 t4 t2 t3 => ?_) (fun T1 A1 e he hne e1 t4 t5 t6 => ?_)
  · simp
  · simp
  · simp
  · simp
  · have n1 := e1.1
    have c0 := e1.get (eC.get b0)
    have c1 := e1.get (eC.get b1)
    have c2 := e1.get (eC.get b2)
    replace t2 : tget T1 2 = .pointer (some ⟨A.n, 0, none⟩) := by rw [t2]; simp
    replace t3 : tget T1 3 = .pointer (some ⟨A.n + 1, 0, none⟩) := by rw [t3]; simp
    have bad : sameSides x y = false → V (.tuple ⟨[gridV 0 0 0 (.slice none 0 0), .int .i64 0, .int .i64 11]⟩) (A1.set (A.n + 2) (some zeroG)) := fun hs => by
      refine hV _ _ ((e0.trans e1).trans (set_same c2)) ?_
      rw [narF, if_pos hE1, if_pos hE2, hs]
      exact GAt.zero.tuple
    by_cases hw : x.w = y.w
    · by_cases hh : x.h = y.h
      · by_cases hs : x.s = y.s
        · have hsame : sameSides x y = true := by simp [sameSides, hw, hh, hs]
          simp (disch := as_aux_lemma => first | omega | simp only [hDs] <;> omega | simp [isCell]) [hRs, takeMarks, resA, resAll, resOne, Value.cells, t2, t3, t4, c0, c1, hw.symm, hh.symm, hs.symm]
          have e01 := e0.trans e1
          rw [← hsx] at rx
          refine w326 (by rw [← hsx]; exact e01.rdS rx) (gridE_zero hE1) hmx (by omega) fun A2 Y c e2 hYn hY => ?_
          have n2 := e2.1
          have hYA := Hp.lt_of_get hY
          simp (disch := as_aux_lemma => first | omega | simp only [hDs] <;> omega | simp [isCell]) [hRs, takeMarks, resA, resAll, resOne, Value.cells, gridV, storeB_cells, setRange_all, set_push_eq, t3, get_push_old, e2.get c1, t4]
          obtain ⟨C2, hC2⟩ : ∃ C2, C2 = A2.push (.cells [.int .i64 x.w, .int .i64 x.h, .int .i64 x.s, .slice (some ⟨Y, 0, some 2⟩) x.m c] false) := ⟨_, rfl⟩
          have eC2 : Ext' A2 C2 := by rw [hC2]; exact Ext'.push _ _
          have e02 := (e01.trans e2).trans eC2
          rw [← hC2]
          have hlx : x.zs.length = x.m * 2 := by have := rx.1; simpa using this
          obtain ⟨-, -, gmx, -⟩ := gridE_parts hE1
          obtain ⟨-, -, gmy, -⟩ := gridE_parts hE2
          have hmm : x.m = y.m := by rw [← hw, ← hh] at gmy; omega
          refine loop299 (X4 := A.n + 2) (X10 := A2.n) (Y := Y) (c := c) (m := y.m) (w := x.w) (h := x.h) (s := x.s) (ys := y.zs) (sl := .slice py y.m cy) (e02.rdS ry) hmy ?_ (by have := eC2.1; omega) (by omega) (by omega) (by omega) (by omega) ((e2.trans eC2).get c2) (by rw [hC2, get_push_new, hmm]) (r := goM (narStep y.zs) y.m 0 x.zs)
            (fun T' A' cur hr hb hA' hl t4 t10 => ?_) (fun T' A' j hr hb t4 t5 t6 => ?_) y.m 0 x.zs (by omega) rfl (by rw [hlx, hmm]) (But.of_ext ⟨Nat.le_refl _, fun _ _ => rfl⟩) (eC2.get hY) ?_ ?_ ?_ ?_ ?_
          · intro z hz
            have := ry.blk_lt hz
            omega
          · have ox : ∀ z, z < A2.n + 1 → z ≠ Y → A'.get z = C2.get z := fun z hz hzn => hb.2 z (by rw [hC2]; simpa using hz) hzn
            have x10 : A'.get A2.n = some (.cells [.int .i64 x.w, .int .i64 x.h, .int .i64 x.s, .slice (some ⟨Y, 0, some 2⟩) x.m c] false) := by rw [ox _ (by omega) (by omega), hC2, get_push_new]
            have x4 : A'.get (A.n + 2) = some zeroG := by rw [ox _ (by omega) (by omega)]; exact (e2.trans eC2).get c2
            simp (disch := as_aux_lemma => first | omega | simp only [hDs] <;> omega | simp [isCell]) [hRs, takeMarks, resA, resAll, resOne, Value.cells, t4, t10, x10, x4, storeB_cells, setRange_all, get_set_same x4]
            have hA2n := hb.1
            have nC2 : C2.n = A2.n + 1 := by rw [hC2]; rfl
            refine hV _ _ ⟨by simp; omega, fun z hz => by rw [get_set_ne (by omega) (by omega), ox z (by omega) (by omega), e02.2 z hz]⟩ ?_
            rw [narF, if_pos hE1, if_pos hE2, if_pos hsame, hr]
            have hYn' := Hp.lt_of_get hA'
            refine GAt.tuple (x := { x with zs := cur }) ⟨_, rfl, ⟨by simp [hl, hmm], .inr ⟨Y, c, false, rfl, ?_⟩⟩⟩
            rw [get_set_ne (by omega) (by omega)]
            exact hA'
          · have x4 : A'.get (A.n + 2) = some zeroG := by rw [hb.2 _ (by have := eC2.1; omega) (by omega)]; exact (e2.trans eC2).get c2
            simp (disch := as_aux_lemma => first | omega | simp only [hDs] <;> omega | simp [isCell]) [hRs, takeMarks, resA, resAll, resOne, Value.cells, t4, t5, t6, x4]
            have hA2n := hb.1
            have nC2 : C2.n = A2.n + 1 := by rw [hC2]; rfl
            refine hV _ _ ⟨by omega, fun z hz => by rw [hb.2 z (by omega) (by omega), e02.2 z hz]⟩ ?_
            rw [narF, if_pos hE1, if_pos hE2, if_pos hsame, hr]
            exact GAt.zero.tuple
          all_goals simp [t4]
        · have hb := bad (by simp [sameSides, hs])
          simp (disch := as_aux_lemma => first | omega | simp only [hDs] <;> omega | simp [isCell]) [hRs, takeMarks, resA, resAll, resOne, Value.cells, t2, t3, t4, c0, c1, c2, hw, hh, hs, fillA, storeB_cells, setRange_all, get_set_same c2]
          exact hb
      · have hb := bad (by simp [sameSides, hh])
        simp (disch := as_aux_lemma => first | omega | simp only [hDs] <;> omega | simp [isCell]) [hRs, takeMarks, resA, resAll, resOne, Value.cells, t2, t3, t4, c0, c1, c2, hw, hh, fillA, storeB_cells, setRange_all, get_set_same c2]
        exact hb
    · have hb := bad (by simp [sameSides, hw])
      simp (disch := as_aux_lemma => first | omega | simp only [hDs] <;> omega | simp [isCell]) [hRs, takeMarks, resA, resAll, resOne, Value.cells, t2, t3, t4, c0, c1, c2, hw, fillA, storeB_cells, setRange_all, get_set_same c2]
      exact hb
  · simp (disch := as_aux_lemma => first | omega | simp only [hDs] <;> omega | simp [isCell]) [hRs, takeMarks, resA, resAll, resOne, Value.cells, t4, t5, t6, e1.get (eC.get b2)]
    refine hV _ _ (e0.trans e1) ?_
    have : narF x y = (G0, 0, e) := by
      unfold narF
      split at he
      · rename_i h1; rw [if_pos h1, if_neg (by rw [← he]; exact hne), he]
      · rename_i h1; rw [if_neg h1, he]
    rw [this]
    exact GAt.zero.tuple
end
end Go.Ab.Grid
set_option maxRecDepth 100000
namespace Go.Ab.Grid
open Go Go.Ab
theorem gi_set2 {cur : List Int} {i j : Nat} {a b : Int} (h : j ≠ i * 2) (h' : j ≠ i * 2 + 1) : gi ((cur.set (i * 2) a).set (i * 2 + 1) b) j = gi cur j := by
  simp only [gi, List.getD_eq_getElem?_getD]
  rw [List.getElem?_set_ne (by omega), List.getElem?_set_ne (by omega)]
@[simp] theorem GuardW_un {AP : Nat → Option AFunc} {K : Nat → Option Spec} {g : Nat} {dst : Option Nat} {op : AOp} {l : List AOper} {T : List Value} {A : Hp} {R : List Value → Hp → Prop} {b : Bool} :
    GuardW AP K g dst op l T A R b undef = WO AP K g l (putA dst T undef) A R := rfl
section
variable {g : Nat} {rd : Option Nat} {T : List Value} {D : List Nat} {A : Hp} {Q : Ex → St → Prop} {V : Value → Hp → Prop}
theorem loop300 {A0 : Hp} {XA XB X4 X8 Y c m : Nat} {w h s w2 h2 s2 : Int} {zs ys : List Int} {sx sy : Value} (hsx : RdS A0 2 m (ints zs) sx) (hsy : RdS A0 2 m (ints ys) sy) (hm : m < 1000000) (hYx : ∀ z, blkOf sx = some z → z ≠ Y) (hYy : ∀ z, blkOf sy = some z → z ≠ Y)
    (hYn : Y < A0.n) (hgY : g ≤ Y) (hg4 : g ≤ X4) (nA : XA ≠ Y) (nB : XB ≠ Y) (n4 : X4 ≠ Y) (n8 : X8 ≠ Y)
    (hA : A0.get XA = some (.cells [.int .i64 w, .int .i64 h, .int .i64 s, sx] false)) (hB : A0.get XB = some (.cells [.int .i64 w2, .int .i64 h2, .int .i64 s2, sy] false))
    (h4 : A0.get X4 = some zeroG) (h8 : A0.get X8 = some (.cells [.int .i64 w, .int .i64 h, .int .i64 s, .slice (some ⟨Y, 0, some 2⟩) m c] false))
    {r : Except Nat (List Int)}
    (hQ : ∀ T' A' cur, r = .ok cur → But Y A0 A' → A'.get Y = some (.cells (ints cur) false) → cur.length = m * 2 → tget T' 4 = .pointer (some ⟨X4, 0, none⟩) → tget T' 8 = .pointer (some ⟨X8, 0, none⟩) → Q (.exit 0) ⟨T', D, A'⟩)
    (hR : ∀ T' A' j, r = .error j → But Y A0 A' → tget T' 4 = .pointer (some ⟨X4, 0, none⟩) → tget T' 5 = .int .i64 (j : Nat) → tget T' 6 = .int .i64 14 → Q .ret ⟨T', D, A'⟩) :
    ∀ (k i : Nat) {T : List Value} {A : Hp} (cur : List Int), i + k = m → goM (narStep ys) k i cur = r → cur.length = m * 2 → (∀ j, i * 2 ≤ j → gi cur j = gi zs j) → But Y A0 A → A.get Y = some (.cells (ints cur) false) →
      tget T 2 = .pointer (some ⟨XA, 0, none⟩) → tget T 3 = .pointer (some ⟨XB, 0, none⟩) → tget T 4 = .pointer (some ⟨X4, 0, none⟩) → tget T 8 = .pointer (some ⟨X8, 0, none⟩) → tget T 9 = .int .i64 i → W AP KL g rd (.loop body300) ⟨T, D, A⟩ Q := by
  intro k
  have lz : zs.length = m * 2 := by have := hsx.1; simpa using this
  have ly : ys.length = m * 2 := by have := hsy.1; simpa using this
  have nA' := Hp.lt_of_get hA
  have nB' := Hp.lt_of_get hB
  have n4' := Hp.lt_of_get h4
  have n8' := Hp.lt_of_get h8
  induction k with
  | zero =>
    intro i T A cur hi hr hc hz hb hAY t2 t3 t4 t8 t9
    have a8 : A.get X8 = some (.cells [.int .i64 w, .int .i64 h, .int .i64 s, .slice (some ⟨Y, 0, some 2⟩) m c] false) := by rw [hb.2 _ n8' n8]; exact h8
    rw [W_loop]
    simp (disch := as_aux_lemma => first | omega | simp only [hDs] <;> omega | simp [isCell]) [hRs, takeMarks, resA, resAll, resOne, Value.cells, body300, t8, t9, a8, show ¬ ((i : Int) < m) by omega]
    exact hQ _ _ cur hr.symm hb hAY hc (by simp [t4]) (by simp [t8])
  | succ k ih =>
    intro i T A cur hi hr hc hz hb hAY t2 t3 t4 t8 t9
    have e5 : wr .i64 ((i : Int) + 1) = ((i + 1 : Nat) : Int) := by rw [wrId (by omega) (by omega)]; simp
    have hAn := hb.1
    have hsA := hsx.keepB (A' := A) fun z hz => hb.2 z (hsx.blk_lt hz) (hYx z hz)
    have hsB := hsy.keepB (A' := A) fun z hz => hb.2 z (hsy.blk_lt hz) (hYy z hz)
    obtain ⟨xb, xc, xr, rfl, hxb⟩ := hsA.at (show i < m by omega)
    obtain ⟨yb, yc, yr, rfl, hyb⟩ := hsB.at (show i < m by omega)
    have aA : A.get XA = some (.cells [.int .i64 w, .int .i64 h, .int .i64 s, .slice (some ⟨xb, 0, some 2⟩) m xc] false) := by rw [hb.2 _ nA' nA]; exact hA
    have aB : A.get XB = some (.cells [.int .i64 w2, .int .i64 h2, .int .i64 s2, .slice (some ⟨yb, 0, some 2⟩) m yc] false) := by rw [hb.2 _ nB' nB]; exact hB
    have a8 : A.get X8 = some (.cells [.int .i64 w, .int .i64 h, .int .i64 s, .slice (some ⟨Y, 0, some 2⟩) m c] false) := by rw [hb.2 _ n8' n8]; exact h8
    have a4 : A.get X4 = some zeroG := by rw [hb.2 _ n4' n4]; exact h4
    have hYA := Hp.lt_of_get hAY
    have ez0 := hz (i * 2) (Nat.le_refl _)
    have ez1 := hz (i * 2 + 1) (by omega)
    unfold goM narStep meetZ at hr
    rw [ez0, ez1] at hr
    rw [W_loop]
    by_cases hm' : max (gi zs (i * 2)) (gi ys (i * 2)) ≤ min (gi zs (i * 2 + 1)) (gi ys (i * 2 + 1))
    · rw [if_pos hm'] at hr
      have hm2 : ¬ min (gi zs (i * 2 + 1)) (gi ys (i * 2 + 1)) < max (gi zs (i * 2)) (gi ys (i * 2)) := by omega
      simp (disch := as_aux_lemma => first | omega | simp only [hDs] <;> omega | simp [isCell]) [hRs, takeMarks, resA, resAll, resOne, Value.cells, body300, t2, t3, t4, t8, t9, show ((i : Int) < m) by omega, show i < m by omega, idxSA_ok, aA, aB, a8, hxb, hyb, ints_get, lz, ly, hc, storeB_cells, setRange_all, setRange, fillA, set_push_eq, hAY, hm2, e5]
      have e6 : List.take (i * 2) (ints cur) ++ .int .i64 (max (gi zs (i * 2)) (gi ys (i * 2))) :: .int .i64 (min (gi zs (i * 2 + 1)) (gi ys (i * 2 + 1))) :: List.drop (i * 2 + 2) (ints cur) = ints ((cur.set (i * 2) (max (gi zs (i * 2)) (gi ys (i * 2)))).set (i * 2 + 1) (min (gi zs (i * 2 + 1)) (gi ys (i * 2 + 1)))) := by
        rw [← setRange_two (by omega)]; simp [setRange]
      rw [e6]
      refine ih (i + 1) _ (by omega) hr (by simp [hc]) (fun j hj => by rw [gi_set2 (by omega) (by omega)]; exact hz j (by omega)) (hb.trans (But.trans (But.set hYA ⟨Nat.le_refl _, fun _ _ => rfl⟩) (But.of_ext (Ext'.push _ _)))) ?_ ?_ ?_ ?_ ?_ ?_
      · rw [get_push_old (by simp; omega)]
        exact get_set_same hAY
      all_goals simp [t2, t3, t4, t8]
    · rw [if_neg hm'] at hr
      have hm2 : min (gi zs (i * 2 + 1)) (gi ys (i * 2 + 1)) < max (gi zs (i * 2)) (gi ys (i * 2)) := by omega
      simp (disch := as_aux_lemma => first | omega | simp only [hDs] <;> omega | simp [isCell]) [hRs, takeMarks, resA, resAll, resOne, Value.cells, body300, t2, t3, t4, t8, t9, show ((i : Int) < m) by omega, show i < m by omega, idxSA_ok, aA, aB, a8, a4, hxb, hyb, ints_get, lz, ly, hc, storeB_cells, setRange_all, setRange, fillA, set_push_eq, hAY, hm2]
      refine hR _ _ i hr.symm ?_ (by simp [t4]) (by simp) (by simp)
      exact hb.trans (But.of_ext ((set_same a4).trans (Ext'.push _ _)))
theorem w300 {x y : G} {vx vy : Value} (hx : GAt A x vx) (hy : GAt A y vy) (hmx : x.m < 1000000) (hmy : y.m < 1000000) (hg : g ≤ A.n)
    (hV : ∀ A' v, Ext' A A' → GV3 A' (narF x y) v → V v A') : WF AP KL g 300 [vx, vy] A V := by
  obtain ⟨sx, rfl, rx⟩ := hx
  obtain ⟨sy, rfl, ry⟩ := hy
  obtain ⟨px, cx, rfl⟩ := rx.isSlice'
  obtain ⟨py, cy, rfl⟩ := ry.isSlice'
  rw [WF_body (show KL 300 = none from rfl) (show AP 300 = some F300 from rfl)]
  obtain ⟨B, hB⟩ : ∃ B, B = ((A.push (.cells [.int .i64 x.w, .int .i64 x.h, .int .i64 x.s, .slice px x.m cx] false)).push (.cells [.int .i64 y.w, .int .i64 y.h, .int .i64 y.s, .slice py y.m cy] false)).push zeroG := ⟨_, rfl⟩
  have eB : Ext' A B := by rw [hB]; exact ((Ext'.push _ _).trans (Ext'.push _ _)).trans (Ext'.push _ _)
  have nB : B.n = A.n + 3 := by rw [hB]; rfl
  have b0 : B.get A.n = some (.cells [.int .i64 x.w, .int .i64 x.h, .int .i64 x.s, .slice px x.m cx] false) := by rw [hB, get_push_old (by simp; omega), get_push_old (by simp), get_push_eq (by omega)]
  have b1 : B.get (A.n + 1) = some (.cells [.int .i64 y.w, .int .i64 y.h, .int .i64 y.s, .slice py y.m cy] false) := by rw [hB, get_push_old (by simp), get_push_eq (by simp)]
  have b2 : B.get (A.n + 2) = some zeroG := by rw [hB, get_push_eq (by simp)]
  unfold zeroG at hB
  simp (disch := as_aux_lemma => first | omega | simp only [hDs] <;> omega | simp [isCell]) [hRs, takeMarks, resA, resAll, resOne, Value.cells, F300, gridV, ← hB, b0]
  refine w40 (eB.rdS rx) hmx (by omega) fun A1 e1 => ?_
  have e01 := eB.trans e1
  have n1 := e1.1
  have fin : ∀ (A' : Hp) (e : Int), Ext' B A' → narF x y = (G0, 0, e) → V (.tuple ⟨[gridV 0 0 0 (.slice none 0 0), .int .i64 0, .int .i64 e]⟩) (A'.set (A.n + 2) (some zeroG)) := fun A' e he hn => by
    refine hV _ _ ((eB.trans he).trans (set_same (he.get b2))) ?_
    rw [hn]
    exact GAt.zero.tuple
  by_cases hE1 : gridE x.w x.h x.s x.m x.zs = 0
  · simp (disch := as_aux_lemma => first | omega | simp only [hDs] <;> omega | simp [isCell]) [hRs, takeMarks, resA, resAll, resOne, Value.cells, hE1, e1.get b1]
    refine w40 (e01.rdS ry) hmy (by omega) fun A2 e2 => ?_
    have e12 := e1.trans e2
    have e02 := eB.trans e12
    have n2 := e2.1
    by_cases hE2 : gridE y.w y.h y.s y.m y.zs = 0
    · by_cases hw : x.w = y.w
      · by_cases hh : x.h = y.h
        · by_cases hs : x.s = y.s
          · have hsame : sameSides x y = true := by simp [sameSides, hw, hh, hs]
            simp (disch := as_aux_lemma => first | omega | simp only [hDs] <;> omega | simp [isCell]) [hRs, takeMarks, resA, resAll, resOne, Value.cells, hE2, e12.get b0, e12.get b1, hw, hh, hs]
            rw [← hw, ← hh, ← hs]
            refine w328 (e02.rdS rx) hmx (by omega) fun A3 Y c e3 hYn hY => ?_
            have n3 := e3.1
            have hYA := Hp.lt_of_get hY
            simp (disch := as_aux_lemma => first | omega | simp only [hDs] <;> omega | simp [isCell]) [hRs, takeMarks, resA, resAll, resOne, Value.cells, gridV, storeB_cells, setRange_all, set_push_eq]
            obtain ⟨C2, hC2⟩ : ∃ C2, C2 = A3.push (.cells [.int .i64 x.w, .int .i64 x.h, .int .i64 x.s, .slice (some ⟨Y, 0, some 2⟩) x.m c] false) := ⟨_, rfl⟩
            have eC2 : Ext' A3 C2 := by rw [hC2]; exact Ext'.push _ _
            have e03 := (e02.trans e3).trans eC2
            have eB3 := (e12.trans e3).trans eC2
            rw [← hC2]
            have hlx : x.zs.length = x.m * 2 := by have := rx.1; simpa using this
            obtain ⟨-, -, gmx, -⟩ := gridE_parts hE1
            obtain ⟨-, -, gmy, -⟩ := gridE_parts hE2
            have hmm : x.m = y.m := by rw [← hw, ← hh] at gmy; omega
            have nC2 : C2.n = A3.n + 1 := by rw [hC2]; rfl
            refine loop300 (XA := A.n) (XB := A.n + 1) (X4 := A.n + 2) (X8 := A3.n) (Y := Y) (c := c) (m := x.m) (w := x.w) (h := x.h) (s := x.s) (w2 := x.w) (h2 := x.h) (s2 := x.s) (zs := x.zs) (ys := y.zs) (sx := .slice px x.m cx) (sy := .slice py y.m cy) (e03.rdS rx) (by rw [hmm]; exact e03.rdS ry) hmx ?_ ?_ (by omega) (by omega) (by omega) (by omega) (by omega) (by omega) (by omega)
              (eB3.get b0) (by rw [eB3.get b1, hw, hh, hs]) (eB3.get b2) (by rw [hC2, get_push_new]) (r := goM (narStep y.zs) y.m 0 x.zs)
              (fun T' A' cur hr hb hA' hl t4 t8 => ?_) (fun T' A' j hr hb t4 t5 t6 => ?_) x.m 0 x.zs (by omega) (by rw [hmm]) hlx (fun _ _ => rfl) (But.of_ext ⟨Nat.le_refl _, fun _ _ => rfl⟩) (eC2.get hY) ?_ ?_ ?_ ?_ ?_
            · intro z hz
              have := rx.blk_lt hz
              omega
            · intro z hz
              have := ry.blk_lt hz
              omega
            · have ox : ∀ z, z < A3.n + 1 → z ≠ Y → A'.get z = C2.get z := fun z hz hzn => hb.2 z (by omega) hzn
              have x10 : A'.get A3.n = some (.cells [.int .i64 x.w, .int .i64 x.h, .int .i64 x.s, .slice (some ⟨Y, 0, some 2⟩) x.m c] false) := by rw [ox _ (by omega) (by omega), hC2, get_push_new]
              have x4 : A'.get (A.n + 2) = some zeroG := by rw [ox _ (by omega) (by omega)]; exact eB3.get b2
              simp (disch := as_aux_lemma => first | omega | simp only [hDs] <;> omega | simp [isCell]) [hRs, takeMarks, resA, resAll, resOne, Value.cells, t4, t8, x10, x4, storeB_cells, setRange_all, get_set_same x4]
              have hA2n := hb.1
              refine hV _ _ ⟨by simp; omega, fun z hz => by rw [get_set_ne (by omega) (by omega), ox z (by omega) (by omega), e03.2 z hz]⟩ ?_
              rw [narF, if_pos (show x.E = 0 from hE1), if_pos (show y.E = 0 from hE2), if_pos hsame, hr]
              have hYn' := Hp.lt_of_get hA'
              refine GAt.tuple (x := { x with zs := cur }) ⟨_, rfl, ⟨by simp [hl], .inr ⟨Y, c, false, rfl, ?_⟩⟩⟩
              rw [get_set_ne (by omega) (by omega)]
              exact hA'
            · have x4 : A'.get (A.n + 2) = some zeroG := by rw [hb.2 _ (by omega) (by omega)]; exact eB3.get b2
              simp (disch := as_aux_lemma => first | omega | simp only [hDs] <;> omega | simp [isCell]) [hRs, takeMarks, resA, resAll, resOne, Value.cells, t4, t5, t6, x4]
              have hA2n := hb.1
              refine hV _ _ ⟨by omega, fun z hz => by rw [hb.2 z (by omega) (by omega), e03.2 z hz]⟩ ?_
              rw [narF, if_pos (show x.E = 0 from hE1), if_pos (show y.E = 0 from hE2), if_pos hsame, hr]
              exact GAt.zero.tuple
            all_goals simp
          · have hb := fin A2 11 e12 (by rw [narF, if_pos (show x.E = 0 from hE1), if_pos (show y.E = 0 from hE2), if_neg (by simp [sameSides, hs])])
            simp (disch := as_aux_lemma => first | omega | simp only [hDs] <;> omega | simp [isCell]) [hRs, takeMarks, resA, resAll, resOne, Value.cells, hE2, e12.get b0, e12.get b1, e12.get b2, hw, hh, hs, fillA, storeB_cells, setRange_all, get_set_same (e12.get b2)]
            exact hb
        · have hb := fin A2 11 e12 (by rw [narF, if_pos (show x.E = 0 from hE1), if_pos (show y.E = 0 from hE2), if_neg (by simp [sameSides, hh])])
          simp (disch := as_aux_lemma => first | omega | simp only [hDs] <;> omega | simp [isCell]) [hRs, takeMarks, resA, resAll, resOne, Value.cells, hE2, e12.get b0, e12.get b1, e12.get b2, hw, hh, fillA, storeB_cells, setRange_all, get_set_same (e12.get b2)]
          exact hb
      · have hb := fin A2 11 e12 (by rw [narF, if_pos (show x.E = 0 from hE1), if_pos (show y.E = 0 from hE2), if_neg (by simp [sameSides, hw])])
        simp (disch := as_aux_lemma => first | omega | simp only [hDs] <;> omega | simp [isCell]) [hRs, takeMarks, resA, resAll, resOne, Value.cells, hE2, e12.get b0, e12.get b1, e12.get b2, hw, fillA, storeB_cells, setRange_all, get_set_same (e12.get b2)]
        exact hb
    · have hb := fin A2 y.E e12 (by rw [narF, if_pos (show x.E = 0 from hE1), if_neg (show ¬ y.E = 0 from hE2)])
      simp (disch := as_aux_lemma => first | omega | simp only [hDs] <;> omega | simp [isCell]) [hRs, takeMarks, resA, resAll, resOne, Value.cells, hE2, e12.get b2, fillA, storeB_cells, setRange_all, get_set_same (e12.get b2)]
      exact hb
  · have hb := fin A1 x.E e1 (by rw [narF, if_neg (show ¬ x.E = 0 from hE1)])
    simp (disch := as_aux_lemma => first | omega | simp only [hDs] <;> omega | simp [isCell]) [hRs, takeMarks, resA, resAll, resOne, Value.cells, hE1, e1.get b2, fillA, storeB_cells, setRange_all, get_set_same (e1.get b2)]
    exact hb
end
end Go.Ab.Grid
set_option maxRecDepth 100000
namespace Go.Ab.Grid
open Go Go.Ab
def sndC (m : Nat) (ls : List Int) (i : Nat) : Int :=
  if (decide (0 ≤ gi ls (i * 3)) && decide (gi ls (i * 3) ≤ (m : Int) - 1)) = true then
    if (decide (-1200000 ≤ gi ls (i * 3 + 1)) && decide (gi ls (i * 3 + 1) ≤ 1200000)) = true then if (decide (0 ≤ gi ls (i * 3 + 2)) && decide (gi ls (i * 3 + 2) ≤ 100000)) = true then 0 else 3 else 3
  else 4
def sndE (m : Nat) (ls : List Int) : Nat → Nat → Int
  | 0, _ => 0
  | k + 1, i => if sndC m ls i = 0 then sndE m ls k (i + 1) else sndC m ls i
theorem sndE_all {m : Nat} {ls : List Int} : ∀ {k i : Nat}, sndE m ls k i = 0 → ∀ j, i ≤ j → j < i + k → sndC m ls j = 0
  | 0, i, _, j, h1, h2 => by omega
  | k + 1, i, h, j, h1, h2 => by
    unfold sndE at h
    split at h
    · rename_i hc
      by_cases hj : j = i
      · rw [hj]; exact hc
      · exact sndE_all h j (by omega) (by omega)
    · rename_i hc; exact absurd h hc
theorem sndC_zero {m : Nat} {ls : List Int} {i : Nat} (h : sndC m ls i = 0) : (0 ≤ gi ls (i * 3) ∧ gi ls (i * 3) ≤ (m : Int) - 1) ∧ (-1200000 ≤ gi ls (i * 3 + 1) ∧ gi ls (i * 3 + 1) ≤ 1200000) ∧ (0 ≤ gi ls (i * 3 + 2) ∧ gi ls (i * 3 + 2) ≤ 100000) := by
  unfold sndC at h
  split at h
  · rename_i h1
    split at h
    · rename_i h2
      split at h
      · rename_i h3
        simp only [Bool.and_eq_true, decide_eq_true_eq] at h1 h2 h3
        exact ⟨h1, h2, h3⟩
      · cases h
    · cases h
  · cases h
def meaStep (ls : List Int) (i : Nat) (cur : List Int) : Option (List Int) := meetZ cur (gi ls (i * 3)).toNat (gi ls (i * 3 + 1) - gi ls (i * 3 + 2)) (gi ls (i * 3 + 1) + gi ls (i * 3 + 2))
def meaF (x : G) (n : Nat) (ls : List Int) : G × Int × Int :=
  if x.E = 0 then if (n : Int) ≤ 4096 then if sndE x.m ls n 0 = 0 then outG x (goM (meaStep ls) n 0 x.zs) else (G0, 0, sndE x.m ls n 0) else (G0, 0, 9) else (G0, 0, x.E)
section
variable {g : Nat} {rd : Option Nat} {T : List Value} {D : List Nat} {A : Hp} {Q : Ex → St → Prop} {V : Value → Hp → Prop}
theorem loop302a {A0 : Hp} {X4 XG m n : Nat} {w h s : Int} {ls : List Int} {sx sl : Value} (hsl : RdS A0 3 n (ints ls) sl) (hn : n < 1000000) (hlen : lenV sx = some (.int .i64 m)) (hm0 : m < 1000000) (hg4 : g ≤ X4)
    (h4 : A0.get X4 = some zeroG) (hG : A0.get XG = some (.cells [.int .i64 w, .int .i64 h, .int .i64 s, sx] false)) (hgn : g ≤ A0.n)
    {r : Int}
    (hQ : ∀ T' A', r = 0 → Ext' A0 A' → tget T' 4 = .pointer (some ⟨X4, 0, none⟩) → tget T' 2 = .pointer (some ⟨XG, 0, none⟩) → tget T' 1 = sl → Q (.exit 0) ⟨T', D, A'⟩)
    (hR : ∀ T' A', r ≠ 0 → Ext' A0 A' → tget T' 4 = .pointer (some ⟨X4, 0, none⟩) → tget T' 5 = .int .i64 0 → tget T' 6 = .int .i64 r → Q .ret ⟨T', D, A'⟩) :
    ∀ (k i : Nat) {T : List Value} {A : Hp}, i + k = n → sndE m ls k i = r → Ext' A0 A →
      tget T 4 = .pointer (some ⟨X4, 0, none⟩) → tget T 2 = .pointer (some ⟨XG, 0, none⟩) → tget T 1 = sl → tget T 25 = sl → tget T 26 = .int .i64 n → tget T 27 = .int .i64 i → W AP KL g rd (.loop body302a) ⟨T, D, A⟩ Q := by
  intro k
  have ll : ls.length = n * 3 := by have := hsl.1; simpa using this
  have h4n := Hp.lt_of_get h4
  have hGn := Hp.lt_of_get hG
  have em : wr .i64 ((m : Int) - 1) = (m : Int) - 1 := wrId (by omega) (by omega)
  induction k with
  | zero =>
    intro i T A hi hr hb t4 t2 t1 t25 t26 t27
    rw [W_loop]
    simp (disch := as_aux_lemma => first | omega | simp only [hDs] <;> omega | simp [isCell]) [hRs, takeMarks, resA, resAll, resOne, Value.cells, body302a, t26, t27, show ¬ ((i : Int) < n) by omega]
    exact hQ _ _ hr.symm hb (by simp [t4]) (by simp [t2]) (by simp [t1])
  | succ k ih =>
    intro i T A hi hr hb t4 t2 t1 t25 t26 t27
    have e5 : wr .i64 ((i : Int) + 1) = ((i + 1 : Nat) : Int) := by rw [wrId (by omega) (by omega)]; simp
    have hAn := hb.1
    have hsA := hb.rdS hsl
    obtain ⟨xb, xc, xr, rfl, hxb⟩ := hsA.at (show i < n by omega)
    have aG := hb.get hG
    have a4 := hb.get h4
    unfold sndE at hr
    have ex : ∀ b, Ext' A0 (A.push b) := fun b => hb.trans (Ext'.push _ _)
    have bad : ∀ (T' : List Value) (b : ABlk), r ≠ 0 → tget T' 4 = .pointer (some ⟨X4, 0, none⟩) → tget T' 5 = .int .i64 0 → tget T' 6 = .int .i64 r → Q .ret ⟨T', D, (A.set X4 (some zeroG)).push b⟩ := fun T' b hne k4 k5 k6 => hR T' _ hne (hb.trans ((set_same a4).trans (Ext'.push _ _))) k4 k5 k6
    rw [W_loop]
    by_cases c1 : (decide (0 ≤ gi ls (i * 3)) && decide (gi ls (i * 3) ≤ (m : Int) - 1)) = true
    · have c1' := c1
      simp only [Bool.and_eq_true, decide_eq_true_eq] at c1'
      by_cases c2 : (decide (-1200000 ≤ gi ls (i * 3 + 1)) && decide (gi ls (i * 3 + 1) ≤ 1200000)) = true
      · have c2' := c2
        simp only [Bool.and_eq_true, decide_eq_true_eq] at c2'
        by_cases c3 : (decide (0 ≤ gi ls (i * 3 + 2)) && decide (gi ls (i * 3 + 2) ≤ 100000)) = true
        · have c3' := c3
          simp only [Bool.and_eq_true, decide_eq_true_eq] at c3'
          have hz : sndC m ls i = 0 := by rw [sndC, if_pos c1, if_pos c2, if_pos c3]
          rw [if_pos hz] at hr
          simp (disch := as_aux_lemma => first | omega | simp only [hDs] <;> omega | simp [isCell]) [hRs, takeMarks, resA, resAll, resOne, Value.cells, body302a, t2, t4, t25, t26, t27, show ((i : Int) < n) by omega, show i < n by omega, idxSA_ok, hxb, ints_3, ll, storeB_cells, setRange_all, set_push_eq, aG, hlen, em, w55i, c1', c2', c3', e5]
          refine ih (i + 1) (by omega) hr (ex _) ?_ ?_ ?_ ?_ ?_ ?_
          all_goals simp [t1, t2, t4, t25, t26]
        · have hz : sndC m ls i = 3 := by rw [sndC, if_pos c1, if_pos c2, if_neg c3]
          have c3' : (!decide (0 ≤ gi ls (i * 3 + 2)) || !decide (gi ls (i * 3 + 2) ≤ 100000)) = true := by
            simp only [Bool.and_eq_true, decide_eq_true_eq] at c3
            simp only [Bool.or_eq_true, Bool.not_eq_true', decide_eq_false_iff_not]
            omega
          rw [if_neg (by rw [hz]; decide), hz] at hr
          simp (disch := as_aux_lemma => first | omega | simp only [hDs] <;> omega | simp [isCell]) [hRs, takeMarks, resA, resAll, resOne, Value.cells, body302a, t2, t4, t25, t26, t27, show ((i : Int) < n) by omega, show i < n by omega, idxSA_ok, hxb, ints_3, ll, storeB_cells, setRange_all, set_push_eq, aG, hlen, em, w55i, c1', c2', c3', e5, fillA, a4]
          exact bad _ _ (by rw [← hr]; decide) (by simp [t4]) (by simp) (by simp [← hr])
      · have hz : sndC m ls i = 3 := by rw [sndC, if_pos c1, if_neg c2]
        have c2' : (!decide (-1200000 ≤ gi ls (i * 3 + 1)) || !decide (gi ls (i * 3 + 1) ≤ 1200000)) = true := by
          simp only [Bool.and_eq_true, decide_eq_true_eq] at c2
          simp only [Bool.or_eq_true, Bool.not_eq_true', decide_eq_false_iff_not]
          omega
        rw [if_neg (by rw [hz]; decide), hz] at hr
        simp (disch := as_aux_lemma => first | omega | simp only [hDs] <;> omega | simp [isCell]) [hRs, takeMarks, resA, resAll, resOne, Value.cells, body302a, t2, t4, t25, t26, t27, show ((i : Int) < n) by omega, show i < n by omega, idxSA_ok, hxb, ints_3, ll, storeB_cells, setRange_all, set_push_eq, aG, hlen, em, w55i, c1', c2', e5, fillA, a4]
        exact bad _ _ (by rw [← hr]; decide) (by simp [t4]) (by simp) (by simp [← hr])
    · have hz : sndC m ls i = 4 := by rw [sndC, if_neg c1]
      have c1' : (!decide (0 ≤ gi ls (i * 3)) || !decide (gi ls (i * 3) ≤ (m : Int) - 1)) = true := by
        simp only [Bool.and_eq_true, decide_eq_true_eq] at c1
        simp only [Bool.or_eq_true, Bool.not_eq_true', decide_eq_false_iff_not]
        omega
      rw [if_neg (by rw [hz]; decide), hz] at hr
      simp (disch := as_aux_lemma => first | omega | simp only [hDs] <;> omega | simp [isCell]) [hRs, takeMarks, resA, resAll, resOne, Value.cells, body302a, t2, t4, t25, t26, t27, show ((i : Int) < n) by omega, show i < n by omega, idxSA_ok, hxb, ints_3, ll, storeB_cells, setRange_all, set_push_eq, aG, hlen, em, w55i, c1', e5, fillA, a4]
      exact bad _ _ (by rw [← hr]; decide) (by simp [t4]) (by simp) (by simp [← hr])
theorem loop302 {A0 : Hp} {X4 X10 Y c m n : Nat} {w h s : Int} {ls : List Int} {sl : Value} (hsl : RdS A0 3 n (ints ls) sl) (hn : n < 1000000) (hm0 : m < 1000000) (hY : ∀ z, blkOf sl = some z → z ≠ Y) (hYn : Y < A0.n) (hgY : g ≤ Y) (hg4 : g ≤ X4) (hX4 : X4 ≠ Y) (hX10 : X10 ≠ Y)
    (h4 : A0.get X4 = some zeroG) (h10 : A0.get X10 = some (.cells [.int .i64 w, .int .i64 h, .int .i64 s, .slice (some ⟨Y, 0, some 2⟩) m c] false)) (hok : ∀ j, j < n → sndC m ls j = 0)
    {r : Except Nat (List Int)}
    (hQ : ∀ T' A' cur, r = .ok cur → But Y A0 A' → A'.get Y = some (.cells (ints cur) false) → cur.length = m * 2 → tget T' 4 = .pointer (some ⟨X4, 0, none⟩) → tget T' 10 = .pointer (some ⟨X10, 0, none⟩) → Q (.exit 3) ⟨T', D, A'⟩)
    (hR : ∀ T' A' j, r = .error j → But Y A0 A' → tget T' 4 = .pointer (some ⟨X4, 0, none⟩) → tget T' 5 = .int .i64 (j : Nat) → tget T' 6 = .int .i64 14 → Q .ret ⟨T', D, A'⟩) :
    ∀ (k i : Nat) {T : List Value} {A : Hp} (cur : List Int), i + k = n → goM (meaStep ls) k i cur = r → cur.length = m * 2 → But Y A0 A → A.get Y = some (.cells (ints cur) false) →
      tget T 4 = .pointer (some ⟨X4, 0, none⟩) → tget T 10 = .pointer (some ⟨X10, 0, none⟩) → tget T 56 = sl → tget T 57 = .int .i64 n → tget T 58 = .int .i64 i → W AP KL g rd (.loop body302) ⟨T, D, A⟩ Q := by
  intro k
  have ll : ls.length = n * 3 := by have := hsl.1; simpa using this
  have hX4n := Hp.lt_of_get h4
  have hX10n := Hp.lt_of_get h10
  induction k with
  | zero =>
    intro i T A cur hi hr hc hb hA t4 t10 t56 t57 t58
    rw [W_loop]
    simp (disch := as_aux_lemma => first | omega | simp only [hDs] <;> omega | simp [isCell]) [hRs, takeMarks, resA, resAll, resOne, Value.cells, body302, t57, t58, show ¬ ((i : Int) < n) by omega]
    exact hQ _ _ cur hr.symm hb hA hc (by simp [t4]) (by simp [t10])
  | succ k ih =>
    intro i T A cur hi hr hc hb hA t4 t10 t56 t57 t58
    have e5 : wr .i64 ((i : Int) + 1) = ((i + 1 : Nat) : Int) := by rw [wrId (by omega) (by omega)]; simp
    have hAn := hb.1
    have hsA := hsl.keepB (A' := A) fun z hz => hb.2 z (hsl.blk_lt hz) (hY z hz)
    obtain ⟨yb, yc, yr, rfl, hyb⟩ := hsA.at (show i < n by omega)
    have hybn := Hp.lt_of_get hyb
    have a10 : A.get X10 = some (.cells [.int .i64 w, .int .i64 h, .int .i64 s, .slice (some ⟨Y, 0, some 2⟩) m c] false) := by rw [hb.2 _ hX10n hX10]; exact h10
    have a4 : A.get X4 = some zeroG := by rw [hb.2 _ hX4n hX4]; exact h4
    obtain ⟨⟨d1, d2⟩, ⟨d3, d4⟩, d5, d6⟩ := sndC_zero (hok i (by omega))
    obtain ⟨cN, hcN⟩ : ∃ cN : Nat, gi ls (i * 3) = (cN : Int) := ⟨(gi ls (i * 3)).toNat, by omega⟩
    have e6 : wr .i64 (gi ls (i * 3 + 1) - gi ls (i * 3 + 2)) = gi ls (i * 3 + 1) - gi ls (i * 3 + 2) := wrId (by omega) (by omega)
    have e7 : wr .i64 (gi ls (i * 3 + 1) + gi ls (i * 3 + 2)) = gi ls (i * 3 + 1) + gi ls (i * 3 + 2) := wrId (by omega) (by omega)
    have hcm : cN < m := by omega
    have hYA := Hp.lt_of_get hA
    unfold goM meaStep meetZ at hr
    rw [hcN, Int.toNat_natCast] at hr
    rw [W_loop]
    simp (disch := as_aux_lemma => first | omega | simp only [hDs] <;> omega | simp [isCell]) [hRs, takeMarks, resA, resAll, resOne, Value.cells, body302, t4, t10, t56, t57, t58, show ((i : Int) < n) by omega, show i < n by omega, idxSA_ok, hyb, ints_3, ints_two, ll, hc, storeB_cells, setRange_all, setRange, set_push_eq, a10, hA, hcN, hcm, e6, e7, fillA]
    obtain ⟨C, hC⟩ : ∃ C, C = A.push (.cells [.int .i64 cN, .int .i64 (gi ls (i * 3 + 1)), .int .i64 (gi ls (i * 3 + 2))] false) := ⟨_, rfl⟩
    rw [← hC]
    have eC : Ext' A C := by rw [hC]; exact Ext'.push _ _
    have nC := eC.1
    have cN' : C.get A.n = some (.cells [.int .i64 cN, .int .i64 (gi ls (i * 3 + 1)), .int .i64 (gi ls (i * 3 + 2))] false) := by rw [hC]; exact get_push_new
    refine w327 (by rw [hC]; simp) fun A1 e1 => ?_
    have e01 := eC.trans e1
    have n1 := e01.1
    have aN := e1.get cN'
    have hNn := Hp.lt_of_get aN
    have hA' := e01.get hA
    have a10' := e01.get a10
    by_cases hm' : max (gi cur (cN * 2)) (gi ls (i * 3 + 1) - gi ls (i * 3 + 2)) ≤ min (gi cur (cN * 2 + 1)) (gi ls (i * 3 + 1) + gi ls (i * 3 + 2))
    · rw [if_pos hm'] at hr
      simp (disch := as_aux_lemma => first | omega | simp only [hDs] <;> omega | simp [isCell]) [hRs, takeMarks, resA, resAll, resOne, Value.cells, hm', t10, a10', aN, storeB_cells, setRange_all, set_push_eq, hcm, idxSA_ok, hA', hc, setRange_two, t56, t57, t58, e5]
      refine ih (i + 1) _ (by omega) hr (by simp [hc]) (hb.trans (But.trans (But.set hYA e01) (But.of_ext (Ext'.push _ _)))) ?_ ?_ ?_ ?_ ?_ ?_
      · rw [get_push_old (by simp; omega)]
        exact get_set_same hA'
      all_goals simp [t4, t10, t56, t57]
    · rw [if_neg hm'] at hr
      simp (disch := as_aux_lemma => first | omega | simp only [hDs] <;> omega | simp [isCell]) [hRs, takeMarks, resA, resAll, resOne, Value.cells, hm', t4, e01.get a4, storeB_cells, setRange_all, set_push_eq, fillA]
      refine hR _ _ i hr.symm ?_ (by simp [t4]) (by simp) (by simp)
      exact hb.trans (But.of_ext ((e01.trans (set_same (e01.get a4))).trans (Ext'.push _ _)))
theorem w302 {x : G} {vx sl : Value} {n : Nat} {ls : List Int} (hx : GAt A x vx) (hsl : RdS A 3 n (ints ls) sl) (hmx : x.m < 1000000) (hn : n < 1000000) (hg : g ≤ A.n)
    (hV : ∀ A' v, Ext' A A' → GV3 A' (meaF x n ls) v → V v A') : WF AP KL g 302 [vx, sl] A V := by
  obtain ⟨sx, rfl, rx⟩ := hx
  obtain ⟨px, cx, rfl⟩ := rx.isSlice'
  rw [WF_body (show KL 302 = none from rfl) (show AP 302 = some F302 from rfl)]
  obtain ⟨B, hB⟩ : ∃ B, B = (A.push (.cells [.int .i64 x.w, .int .i64 x.h, .int .i64 x.s, .slice px x.m cx] false)).push zeroG := ⟨_, rfl⟩
  have eB : Ext' A B := by rw [hB]; exact (Ext'.push _ _).trans (Ext'.push _ _)
  have nB : B.n = A.n + 2 := by rw [hB]; rfl
  have b0 : B.get A.n = some (.cells [.int .i64 x.w, .int .i64 x.h, .int .i64 x.s, .slice px x.m cx] false) := by rw [hB, get_push_old (by simp), get_push_eq (by omega)]
  have b2 : B.get (A.n + 1) = some zeroG := by rw [hB, get_push_eq (by simp)]
  unfold zeroG at hB
  have hl := hsl.len
  simp (disch := as_aux_lemma => first | omega | simp only [hDs] <;> omega | simp [isCell]) [hRs, takeMarks, resA, resAll, resOne, Value.cells, F302, gridV, ← hB, b0]
  refine w37 (eB.rdS rx) hmx fun A1 e1 => ?_
  have e01 := eB.trans e1
  have n1 := e1.1
  have fin : ∀ (A' : Hp) (e : Int), Ext' B A' → meaF x n ls = (G0, 0, e) → V (.tuple ⟨[gridV 0 0 0 (.slice none 0 0), .int .i64 0, .int .i64 e]⟩) (A'.set (A.n + 1) (some zeroG)) := fun A' e he hn => by
    refine hV _ _ ((eB.trans he).trans (set_same (he.get b2))) ?_
    rw [hn]
    exact GAt.zero.tuple
  by_cases hE1 : gridE x.w x.h x.s x.m x.zs = 0
  · by_cases h4096 : (n : Int) ≤ 4096
    · simp (disch := as_aux_lemma => first | omega | simp only [hDs] <;> omega | simp [isCell]) [hRs, takeMarks, resA, resAll, resOne, Value.cells, hE1, hl, show ¬ (4096 : Int) < n by omega]
      refine loop302a (X4 := A.n + 1) (XG := A.n) (m := x.m) (w := x.w) (h := x.h) (s := x.s) (e01.rdS hsl) hn rx.len hmx (by omega) (e1.get b2) (e1.get b0) (by omega) (r := sndE x.m ls n 0)
        (fun T1 A2 hr e2 t4 t2 t1 => ?_) (fun T1 A2 hr e2 t4 t5 t6 => ?_) n 0 (by omega) rfl ⟨Nat.le_refl _, fun _ _ => rfl⟩ ?_ ?_ ?_ ?_ ?_ ?_
      · have e12 := e1.trans e2
        have e02 := eB.trans e12
        have n2 := e2.1
        have hlx : x.zs.length = x.m * 2 := by have := rx.1; simpa using this
        simp (disch := as_aux_lemma => first | omega | simp only [hDs] <;> omega | simp [isCell]) [hRs, takeMarks, resA, resAll, resOne, Value.cells, t1, t2, t4, e12.get b0]
        refine w326 (e02.rdS rx) (gridE_zero hE1) hmx (by omega) fun A3 Y c e3 hYn hY => ?_
        have n3 := e3.1
        have hYA := Hp.lt_of_get hY
        simp (disch := as_aux_lemma => first | omega | simp only [hDs] <;> omega | simp [isCell]) [hRs, takeMarks, resA, resAll, resOne, Value.cells, gridV, storeB_cells, setRange_all, set_push_eq, t1, hl]
        obtain ⟨C2, hC2⟩ : ∃ C2, C2 = A3.push (.cells [.int .i64 x.w, .int .i64 x.h, .int .i64 x.s, .slice (some ⟨Y, 0, some 2⟩) x.m c] false) := ⟨_, rfl⟩
        have eC2 : Ext' A3 C2 := by rw [hC2]; exact Ext'.push _ _
        have e03 := (e02.trans e3).trans eC2
        have eB3 := (e12.trans e3).trans eC2
        have nC2 : C2.n = A3.n + 1 := by rw [hC2]; rfl
        rw [← hC2]
        refine loop302 (X4 := A.n + 1) (X10 := A3.n) (Y := Y) (c := c) (m := x.m) (n := n) (w := x.w) (h := x.h) (s := x.s) (ls := ls) (sl := sl) (e03.rdS hsl) hn hmx ?_ (by omega) (by omega) (by omega) (by omega) (by omega) (eB3.get b2) (by rw [hC2, get_push_new]) (fun j hj => sndE_all hr j (by omega) (by omega)) (r := goM (meaStep ls) n 0 x.zs)
          (fun T' A' cur hr' hb hA' hl' t4' t10' => ?_) (fun T' A' j hr' hb t4' t5' t6' => ?_) n 0 x.zs (by omega) rfl hlx (But.of_ext ⟨Nat.le_refl _, fun _ _ => rfl⟩) (eC2.get hY) ?_ ?_ ?_ ?_ ?_
        · intro z hz
          have := hsl.blk_lt hz
          omega
        · have ox : ∀ z, z < A3.n + 1 → z ≠ Y → A'.get z = C2.get z := fun z hz hzn => hb.2 z (by omega) hzn
          have x10 : A'.get A3.n = some (.cells [.int .i64 x.w, .int .i64 x.h, .int .i64 x.s, .slice (some ⟨Y, 0, some 2⟩) x.m c] false) := by rw [ox _ (by omega) (by omega), hC2, get_push_new]
          have x4 : A'.get (A.n + 1) = some zeroG := by rw [ox _ (by omega) (by omega)]; exact eB3.get b2
          simp (disch := as_aux_lemma => first | omega | simp only [hDs] <;> omega | simp [isCell]) [hRs, takeMarks, resA, resAll, resOne, Value.cells, t4', t10', x10, x4, storeB_cells, setRange_all, get_set_same x4]
          have hA2n := hb.1
          refine hV _ _ ⟨by simp; omega, fun z hz => by rw [get_set_ne (by omega) (by omega), ox z (by omega) (by omega), e03.2 z hz]⟩ ?_
          rw [meaF, if_pos (show x.E = 0 from hE1), if_pos h4096, if_pos hr, hr']
          have hYn' := Hp.lt_of_get hA'
          refine GAt.tuple (x := { x with zs := cur }) ⟨_, rfl, ⟨by simp [hl'], .inr ⟨Y, c, false, rfl, ?_⟩⟩⟩
          rw [get_set_ne (by omega) (by omega)]
          exact hA'
        · have x4 : A'.get (A.n + 1) = some zeroG := by rw [hb.2 _ (by omega) (by omega)]; exact eB3.get b2
          simp (disch := as_aux_lemma => first | omega | simp only [hDs] <;> omega | simp [isCell]) [hRs, takeMarks, resA, resAll, resOne, Value.cells, t4', t5', t6', x4]
          have hA2n := hb.1
          refine hV _ _ ⟨by omega, fun z hz => by rw [hb.2 z (by omega) (by omega), e03.2 z hz]⟩ ?_
          rw [meaF, if_pos (show x.E = 0 from hE1), if_pos h4096, if_pos hr, hr']
          exact GAt.zero.tuple
        all_goals simp [t4]
      · have x4 := (e1.trans e2).get b2
        simp (disch := as_aux_lemma => first | omega | simp only [hDs] <;> omega | simp [isCell]) [hRs, takeMarks, resA, resAll, resOne, Value.cells, t4, t5, t6, x4]
        have := hV A2 (.tuple ⟨[gridV 0 0 0 (.slice none 0 0), .int .i64 0, .int .i64 (sndE x.m ls n 0)]⟩) (eB.trans (e1.trans e2)) (by rw [meaF, if_pos (show x.E = 0 from hE1), if_pos h4096, if_neg hr]; exact GAt.zero.tuple)
        exact this
      all_goals simp
    · have hb := fin A1 9 e1 (by rw [meaF, if_pos (show x.E = 0 from hE1), if_neg h4096])
      simp (disch := as_aux_lemma => first | omega | simp only [hDs] <;> omega | simp [isCell]) [hRs, takeMarks, resA, resAll, resOne, Value.cells, hE1, hl, show (4096 : Int) < n by omega, e1.get b2, fillA, storeB_cells, setRange_all, get_set_same (e1.get b2)]
      exact hb
  · have hb := fin A1 x.E e1 (by rw [meaF, if_neg (show ¬ x.E = 0 from hE1)])
    simp (disch := as_aux_lemma => first | omega | simp only [hDs] <;> omega | simp [isCell]) [hRs, takeMarks, resA, resAll, resOne, Value.cells, hE1, e1.get b2, fillA, storeB_cells, setRange_all, get_set_same (e1.get b2)]
    exact hb
end
end Go.Ab.Grid
set_option maxRecDepth 100000
namespace Go.Ab.Grid
open Go Go.Ab
section
variable {g : Nat} {rd : Option Nat} {T : List Value} {D : List Nat} {A : Hp} {Q : Ex → St → Prop} {V : Value → Hp → Prop}
theorem w59i {x lo hi : Int} : WF AP KL g 59 [.int .i64 x, .int .i64 lo, .int .i64 hi] A V ↔ V (.bool (decide (lo ≤ x) && decide (x ≤ hi))) A := by
  rw [WF_body (show KL 59 = none from rfl) (show AP 59 = some F59 from rfl)]
  by_cases h : lo ≤ x
  · simp (disch := as_aux_lemma => first | omega | simp only [hDs] <;> omega | simp [isCell]) [hRs, takeMarks, resA, resAll, resOne, Value.cells, F59, h]
  · simp (disch := as_aux_lemma => first | omega | simp only [hDs] <;> omega | simp [isCell]) [hRs, takeMarks, resA, resAll, resOne, Value.cells, F59, h]
theorem loop303a {A0 : Hp} {X4 XG m n : Nat} {w h s : Int} {ls : List Int} {sx sl : Value} (hsl : RdS A0 3 n (ints ls) sl) (hn : n < 1000000) (hlen : lenV sx = some (.int .i64 m)) (hm0 : m < 1000000) (hg4 : g ≤ X4)
    (h4 : A0.get X4 = some zeroG) (hG : A0.get XG = some (.cells [.int .i64 w, .int .i64 h, .int .i64 s, sx] false)) (hgn : g ≤ A0.n)
    {r : Int}
    (hQ : ∀ T' A', r = 0 → Ext' A0 A' → tget T' 4 = .pointer (some ⟨X4, 0, none⟩) → tget T' 2 = .pointer (some ⟨XG, 0, none⟩) → tget T' 1 = sl → Q (.exit 0) ⟨T', D, A'⟩)
    (hR : ∀ T' A', r ≠ 0 → Ext' A0 A' → tget T' 4 = .pointer (some ⟨X4, 0, none⟩) → tget T' 5 = .int .i64 0 → tget T' 6 = .int .i64 r → Q .ret ⟨T', D, A'⟩) :
    ∀ (k i : Nat) {T : List Value} {A : Hp}, i + k = n → sndE m ls k i = r → Ext' A0 A →
      tget T 4 = .pointer (some ⟨X4, 0, none⟩) → tget T 2 = .pointer (some ⟨XG, 0, none⟩) → tget T 1 = sl → tget T 8 = .int .i64 i → W AP KL g rd (.loop body303a) ⟨T, D, A⟩ Q := by
  intro k
  have ll : ls.length = n * 3 := by have := hsl.1; simpa using this
  have hl := hsl.len
  have h4n := Hp.lt_of_get h4
  have hGn := Hp.lt_of_get hG
  have em : wr .i64 ((m : Int) - 1) = (m : Int) - 1 := wrId (by omega) (by omega)
  induction k with
  | zero =>
    intro i T A hi hr hb t4 t2 t1 t8
    rw [W_loop]
    simp (disch := as_aux_lemma => first | omega | simp only [hDs] <;> omega | simp [isCell]) [hRs, takeMarks, resA, resAll, resOne, Value.cells, body303a, t1, t8, hl, show ¬ ((i : Int) < n) by omega]
    exact hQ _ _ hr.symm hb (by simp [t4]) (by simp [t2]) (by simp [t1])
  | succ k ih =>
    intro i T A hi hr hb t4 t2 t1 t8
    have e5 : wr .i64 ((i : Int) + 1) = ((i + 1 : Nat) : Int) := by rw [wrId (by omega) (by omega)]; simp
    have hAn := hb.1
    have hsA := hb.rdS hsl
    obtain ⟨xb, xc, xr, rfl, hxb⟩ := hsA.at (show i < n by omega)
    have aG := hb.get hG
    have a4 := hb.get h4
    unfold sndE at hr
    have bad : ∀ (T' : List Value), r ≠ 0 → tget T' 4 = .pointer (some ⟨X4, 0, none⟩) → tget T' 5 = .int .i64 0 → tget T' 6 = .int .i64 r → Q .ret ⟨T', D, A.set X4 (some zeroG)⟩ := fun T' hne k4 k5 k6 => hR T' _ hne (hb.trans (set_same a4)) k4 k5 k6
    rw [W_loop]
    by_cases c1 : (decide (0 ≤ gi ls (i * 3)) && decide (gi ls (i * 3) ≤ (m : Int) - 1)) = true
    · have c1' := c1
      simp only [Bool.and_eq_true, decide_eq_true_eq] at c1'
      by_cases c2 : (decide (-1200000 ≤ gi ls (i * 3 + 1)) && decide (gi ls (i * 3 + 1) ≤ 1200000)) = true
      · have c2' := c2
        simp only [Bool.and_eq_true, decide_eq_true_eq] at c2'
        by_cases c3 : (decide (0 ≤ gi ls (i * 3 + 2)) && decide (gi ls (i * 3 + 2) ≤ 100000)) = true
        · have c3' := c3
          simp only [Bool.and_eq_true, decide_eq_true_eq] at c3'
          have hz : sndC m ls i = 0 := by rw [sndC, if_pos c1, if_pos c2, if_pos c3]
          rw [if_pos hz] at hr
          simp (disch := as_aux_lemma => first | omega | simp only [hDs] <;> omega | simp [isCell]) [hRs, takeMarks, resA, resAll, resOne, Value.cells, body303a, t1, t2, t4, t8, hl, show ((i : Int) < n) by omega, show i < n by omega, idxSA_ok, hxb, ints_get, ll, storeB_cells, setRange_all, set_push_eq, aG, hlen, em, w59i, c1', c2', c3', e5]
          refine ih (i + 1) (by omega) hr hb ?_ ?_ ?_ ?_
          all_goals simp [t1, t2, t4]
        · have hz : sndC m ls i = 3 := by rw [sndC, if_pos c1, if_pos c2, if_neg c3]
          have c3' : (!decide (0 ≤ gi ls (i * 3 + 2)) || !decide (gi ls (i * 3 + 2) ≤ 100000)) = true := by
            simp only [Bool.and_eq_true, decide_eq_true_eq] at c3
            simp only [Bool.or_eq_true, Bool.not_eq_true', decide_eq_false_iff_not]
            omega
          rw [if_neg (by rw [hz]; decide), hz] at hr
          simp (disch := as_aux_lemma => first | omega | simp only [hDs] <;> omega | simp [isCell]) [hRs, takeMarks, resA, resAll, resOne, Value.cells, body303a, t1, t2, t4, t8, hl, show ((i : Int) < n) by omega, show i < n by omega, idxSA_ok, hxb, ints_get, ll, storeB_cells, setRange_all, set_push_eq, aG, hlen, em, w59i, c1', c2', c3', e5, fillA, a4]
          exact bad _ (by rw [← hr]; decide) (by simp [t4]) (by simp) (by simp [← hr])
      · have hz : sndC m ls i = 3 := by rw [sndC, if_pos c1, if_neg c2]
        have c2' : (!decide (-1200000 ≤ gi ls (i * 3 + 1)) || !decide (gi ls (i * 3 + 1) ≤ 1200000)) = true := by
          simp only [Bool.and_eq_true, decide_eq_true_eq] at c2
          simp only [Bool.or_eq_true, Bool.not_eq_true', decide_eq_false_iff_not]
          omega
        rw [if_neg (by rw [hz]; decide), hz] at hr
        simp (disch := as_aux_lemma => first | omega | simp only [hDs] <;> omega | simp [isCell]) [hRs, takeMarks, resA, resAll, resOne, Value.cells, body303a, t1, t2, t4, t8, hl, show ((i : Int) < n) by omega, show i < n by omega, idxSA_ok, hxb, ints_get, ll, storeB_cells, setRange_all, set_push_eq, aG, hlen, em, w59i, c1', c2', e5, fillA, a4]
        exact bad _ (by rw [← hr]; decide) (by simp [t4]) (by simp) (by simp [← hr])
    · have hz : sndC m ls i = 4 := by rw [sndC, if_neg c1]
      have c1' : (!decide (0 ≤ gi ls (i * 3)) || !decide (gi ls (i * 3) ≤ (m : Int) - 1)) = true := by
        simp only [Bool.and_eq_true, decide_eq_true_eq] at c1
        simp only [Bool.or_eq_true, Bool.not_eq_true', decide_eq_false_iff_not]
        omega
      rw [if_neg (by rw [hz]; decide), hz] at hr
      simp (disch := as_aux_lemma => first | omega | simp only [hDs] <;> omega | simp [isCell]) [hRs, takeMarks, resA, resAll, resOne, Value.cells, body303a, t1, t2, t4, t8, hl, show ((i : Int) < n) by omega, show i < n by omega, idxSA_ok, hxb, ints_get, ll, storeB_cells, setRange_all, set_push_eq, aG, hlen, em, w59i, c1', e5, fillA, a4]
      exact bad _ (by rw [← hr]; decide) (by simp [t4]) (by simp) (by simp [← hr])
theorem loop303 {A0 : Hp} {X4 X9 Y c m n : Nat} {w h s : Int} {ls : List Int} {sl : Value} (hsl : RdS A0 3 n (ints ls) sl) (hn : n < 1000000) (hm0 : m < 1000000) (hY : ∀ z, blkOf sl = some z → z ≠ Y) (hYn : Y < A0.n) (hgY : g ≤ Y) (hg4 : g ≤ X4) (hX4 : X4 ≠ Y) (hX9 : X9 ≠ Y)
    (h4 : A0.get X4 = some zeroG) (h9 : A0.get X9 = some (.cells [.int .i64 w, .int .i64 h, .int .i64 s, .slice (some ⟨Y, 0, some 2⟩) m c] false)) (hok : ∀ j, j < n → sndC m ls j = 0)
    {r : Except Nat (List Int)}
    (hQ : ∀ T' A' cur, r = .ok cur → But Y A0 A' → A'.get Y = some (.cells (ints cur) false) → cur.length = m * 2 → tget T' 4 = .pointer (some ⟨X4, 0, none⟩) → tget T' 9 = .pointer (some ⟨X9, 0, none⟩) → Q (.exit 2) ⟨T', D, A'⟩)
    (hR : ∀ T' A' j, r = .error j → But Y A0 A' → tget T' 4 = .pointer (some ⟨X4, 0, none⟩) → tget T' 5 = .int .i64 (j : Nat) → tget T' 6 = .int .i64 14 → Q .ret ⟨T', D, A'⟩) :
    ∀ (k i : Nat) {T : List Value} {A : Hp} (cur : List Int), i + k = n → goM (meaStep ls) k i cur = r → cur.length = m * 2 → But Y A0 A → A.get Y = some (.cells (ints cur) false) →
      tget T 4 = .pointer (some ⟨X4, 0, none⟩) → tget T 9 = .pointer (some ⟨X9, 0, none⟩) → tget T 1 = sl → tget T 10 = .int .i64 i → W AP KL g rd (.loop body303) ⟨T, D, A⟩ Q := by
  intro k
  have ll : ls.length = n * 3 := by have := hsl.1; simpa using this
  have hX4n := Hp.lt_of_get h4
  have hX9n := Hp.lt_of_get h9
  have hl := hsl.len
  induction k with
  | zero =>
    intro i T A cur hi hr hc hb hA t4 t9 t1 t10
    rw [W_loop]
    simp (disch := as_aux_lemma => first | omega | simp only [hDs] <;> omega | simp [isCell]) [hRs, takeMarks, resA, resAll, resOne, Value.cells, body303, t1, t10, hl, show ¬ ((i : Int) < n) by omega]
    exact hQ _ _ cur hr.symm hb hA hc (by simp [t4]) (by simp [t9])
  | succ k ih =>
    intro i T A cur hi hr hc hb hA t4 t9 t1 t10
    have e5 : wr .i64 ((i : Int) + 1) = ((i + 1 : Nat) : Int) := by rw [wrId (by omega) (by omega)]; simp
    have hAn := hb.1
    have hsA := hsl.keepB (A' := A) fun z hz => hb.2 z (hsl.blk_lt hz) (hY z hz)
    obtain ⟨yb, yc, yr, rfl, hyb⟩ := hsA.at (show i < n by omega)
    have hyY : yb ≠ Y := hY yb rfl
    have a9 : A.get X9 = some (.cells [.int .i64 w, .int .i64 h, .int .i64 s, .slice (some ⟨Y, 0, some 2⟩) m c] false) := by rw [hb.2 _ hX9n hX9]; exact h9
    have a4 : A.get X4 = some zeroG := by rw [hb.2 _ hX4n hX4]; exact h4
    obtain ⟨⟨d1, d2⟩, ⟨d3, d4⟩, d5, d6⟩ := sndC_zero (hok i (by omega))
    obtain ⟨cN, hcN⟩ : ∃ cN : Nat, gi ls (i * 3) = (cN : Int) := ⟨(gi ls (i * 3)).toNat, by omega⟩
    have e6 : wr .i64 (gi ls (i * 3 + 1) - gi ls (i * 3 + 2)) = gi ls (i * 3 + 1) - gi ls (i * 3 + 2) := wrId (by omega) (by omega)
    have e7 : wr .i64 (gi ls (i * 3 + 1) + gi ls (i * 3 + 2)) = gi ls (i * 3 + 1) + gi ls (i * 3 + 2) := wrId (by omega) (by omega)
    have hcm : cN < m := by omega
    have hYA := Hp.lt_of_get hA
    unfold goM meaStep meetZ at hr
    rw [hcN, Int.toNat_natCast] at hr
    rw [W_loop]
    have hl1 : (cur.set (cN * 2) (max (gi cur (cN * 2)) (gi ls (i * 3 + 1) - gi ls (i * 3 + 2)))).length = cur.length := by simp
    have hl2 : ((cur.set (cN * 2) (max (gi cur (cN * 2)) (gi ls (i * 3 + 1) - gi ls (i * 3 + 2)))).set (cN * 2 + 1) (min (gi cur (cN * 2 + 1)) (gi ls (i * 3 + 1) + gi ls (i * 3 + 2)))).length = cur.length := by simp
    have hA1 : ∀ b, (A.set Y (some b)).get Y = some b := fun b => get_set_same hA
    have hA2 : ∀ b b', ((A.set Y (some b)).set Y (some b')).get Y = some b' := fun b b' => get_set_same (get_set_same hA)
    have g1 : ∀ a b, gi ((cur.set (cN * 2) a).set (cN * 2 + 1) b) (cN * 2) = a := fun a b => by rw [gi_setI (by simp; omega), if_neg (by omega), gi_setI (by omega), if_pos rfl]
    have g2 : ∀ a b, gi ((cur.set (cN * 2) a).set (cN * 2 + 1) b) (cN * 2 + 1) = b := fun a b => by rw [gi_setI (by simp; omega), if_pos rfl]
    have hB : ∀ b b', But Y A0 ((A.set Y (some b)).set Y (some b')) := fun b b' => hb.trans (But.trans (But.set hYA ⟨Nat.le_refl _, fun _ _ => rfl⟩) (But.set (by simpa using hYA) ⟨Nat.le_refl _, fun _ _ => rfl⟩))
    by_cases hm' : max (gi cur (cN * 2)) (gi ls (i * 3 + 1) - gi ls (i * 3 + 2)) ≤ min (gi cur (cN * 2 + 1)) (gi ls (i * 3 + 1) + gi ls (i * 3 + 2))
    · rw [if_pos hm'] at hr
      have hm2 : ¬ min (gi cur (cN * 2 + 1)) (gi ls (i * 3 + 1) + gi ls (i * 3 + 2)) < max (gi cur (cN * 2)) (gi ls (i * 3 + 1) - gi ls (i * 3 + 2)) := by omega
      simp (disch := as_aux_lemma => first | omega | simp only [hDs] <;> omega | simp [isCell]) [hRs, takeMarks, resA, resAll, resOne, Value.cells, body303, t4, t9, t1, t10, hl, show ((i : Int) < n) by omega, show i < n by omega, idxSA_ok, hyb, ints_get, ll, hc, storeB_cells, setRange_all, set_push_eq, a9, hA, hcN, hcm, e5, e6, e7, nilCheckA, setRange_intsI, hA1, hA2, List.length_set, g1, g2, hm2]
      refine ih (i + 1) _ (by omega) hr (by simp [hc]) (hB _ _) (hA2 _ _) ?_ ?_ ?_ ?_
      all_goals simp [t4, t9, t1]
    · rw [if_neg hm'] at hr
      have hm2 : min (gi cur (cN * 2 + 1)) (gi ls (i * 3 + 1) + gi ls (i * 3 + 2)) < max (gi cur (cN * 2)) (gi ls (i * 3 + 1) - gi ls (i * 3 + 2)) := by omega
      have h42 : ∀ b b', ((A.set Y (some b)).set Y (some b')).get X4 = some zeroG := fun b b' => by rw [(hB b b').2 _ hX4n hX4]; exact h4
      unfold zeroG at h42
      simp (disch := as_aux_lemma => first | omega | simp only [hDs] <;> omega | simp [isCell]) [hRs, takeMarks, resA, resAll, resOne, Value.cells, body303, t4, t9, t1, t10, hl, show ((i : Int) < n) by omega, show i < n by omega, idxSA_ok, hyb, ints_get, ll, hc, storeB_cells, setRange_all, set_push_eq, a9, hA, hcN, hcm, e5, e6, e7, nilCheckA, setRange_intsI, hA1, hA2, List.length_set, g1, g2, hm2, fillA, h42]
      refine hR _ _ i hr.symm ?_ (by simp [t4]) (by simp) (by simp)
      exact (hB _ _).trans (But.of_ext (set_same (h42 _ _)))
theorem w303 {x : G} {vx sl : Value} {n : Nat} {ls : List Int} (hx : GAt A x vx) (hsl : RdS A 3 n (ints ls) sl) (hmx : x.m < 1000000) (hn : n < 1000000) (hg : g ≤ A.n)
    (hV : ∀ A' v, Ext' A A' → GV3 A' (meaF x n ls) v → V v A') : WF AP KL g 303 [vx, sl] A V := by
  obtain ⟨sx, rfl, rx⟩ := hx
  obtain ⟨px, cx, rfl⟩ := rx.isSlice'
  rw [WF_body (show KL 303 = none from rfl) (show AP 303 = some F303 from rfl)]
  obtain ⟨B, hB⟩ : ∃ B, B = (A.push (.cells [.int .i64 x.w, .int .i64 x.h, .int .i64 x.s, .slice px x.m cx] false)).push zeroG := ⟨_, rfl⟩
  have eB : Ext' A B := by rw [hB]; exact (Ext'.push _ _).trans (Ext'.push _ _)
  have nB : B.n = A.n + 2 := by rw [hB]; rfl
  have b0 : B.get A.n = some (.cells [.int .i64 x.w, .int .i64 x.h, .int .i64 x.s, .slice px x.m cx] false) := by rw [hB, get_push_old (by simp), get_push_eq (by omega)]
  have b2 : B.get (A.n + 1) = some zeroG := by rw [hB, get_push_eq (by simp)]
  unfold zeroG at hB
  have hl := hsl.len
  simp (disch := as_aux_lemma => first | omega | simp only [hDs] <;> omega | simp [isCell]) [hRs, takeMarks, resA, resAll, resOne, Value.cells, F303, gridV, ← hB, b0]
  refine w40 (eB.rdS rx) hmx (by omega) fun A1 e1 => ?_
  have e01 := eB.trans e1
  have n1 := e1.1
  have fin : ∀ (A' : Hp) (e : Int), Ext' B A' → meaF x n ls = (G0, 0, e) → V (.tuple ⟨[gridV 0 0 0 (.slice none 0 0), .int .i64 0, .int .i64 e]⟩) (A'.set (A.n + 1) (some zeroG)) := fun A' e he hn => by
    refine hV _ _ ((eB.trans he).trans (set_same (he.get b2))) ?_
    rw [hn]
    exact GAt.zero.tuple
  by_cases hE1 : gridE x.w x.h x.s x.m x.zs = 0
  · by_cases h4096 : (n : Int) ≤ 4096
    · simp (disch := as_aux_lemma => first | omega | simp only [hDs] <;> omega | simp [isCell]) [hRs, takeMarks, resA, resAll, resOne, Value.cells, hE1, hl, show ¬ (4096 : Int) < n by omega]
      refine loop303a (X4 := A.n + 1) (XG := A.n) (m := x.m) (w := x.w) (h := x.h) (s := x.s) (e01.rdS hsl) hn rx.len hmx (by omega) (e1.get b2) (e1.get b0) (by omega) (r := sndE x.m ls n 0)
        (fun T1 A2 hr e2 t4 t2 t1 => ?_) (fun T1 A2 hr e2 t4 t5 t6 => ?_) n 0 (by omega) rfl ⟨Nat.le_refl _, fun _ _ => rfl⟩ ?_ ?_ ?_ ?_
      · have e12 := e1.trans e2
        have e02 := eB.trans e12
        have n2 := e2.1
        have hlx : x.zs.length = x.m * 2 := by have := rx.1; simpa using this
        simp (disch := as_aux_lemma => first | omega | simp only [hDs] <;> omega | simp [isCell]) [hRs, takeMarks, resA, resAll, resOne, Value.cells, t1, t2, t4, e12.get b0]
        refine w328 (e02.rdS rx) hmx (by omega) fun A3 Y c e3 hYn hY => ?_
        have n3 := e3.1
        have hYA := Hp.lt_of_get hY
        simp (disch := as_aux_lemma => first | omega | simp only [hDs] <;> omega | simp [isCell]) [hRs, takeMarks, resA, resAll, resOne, Value.cells, gridV, storeB_cells, setRange_all, set_push_eq, t1, hl]
        obtain ⟨C2, hC2⟩ : ∃ C2, C2 = A3.push (.cells [.int .i64 x.w, .int .i64 x.h, .int .i64 x.s, .slice (some ⟨Y, 0, some 2⟩) x.m c] false) := ⟨_, rfl⟩
        have eC2 : Ext' A3 C2 := by rw [hC2]; exact Ext'.push _ _
        have e03 := (e02.trans e3).trans eC2
        have eB3 := (e12.trans e3).trans eC2
        have nC2 : C2.n = A3.n + 1 := by rw [hC2]; rfl
        rw [← hC2]
        refine loop303 (X4 := A.n + 1) (X9 := A3.n) (Y := Y) (c := c) (m := x.m) (n := n) (w := x.w) (h := x.h) (s := x.s) (ls := ls) (sl := sl) (e03.rdS hsl) hn hmx ?_ (by omega) (by omega) (by omega) (by omega) (by omega) (eB3.get b2) (by rw [hC2, get_push_new]) (fun j hj => sndE_all hr j (by omega) (by omega)) (r := goM (meaStep ls) n 0 x.zs)
          (fun T' A' cur hr' hb hA' hl' t4' t9' => ?_) (fun T' A' j hr' hb t4' t5' t6' => ?_) n 0 x.zs (by omega) rfl hlx (But.of_ext ⟨Nat.le_refl _, fun _ _ => rfl⟩) (eC2.get hY) ?_ ?_ ?_ ?_
        · intro z hz
          have := hsl.blk_lt hz
          omega
        · have ox : ∀ z, z < A3.n + 1 → z ≠ Y → A'.get z = C2.get z := fun z hz hzn => hb.2 z (by omega) hzn
          have x10 : A'.get A3.n = some (.cells [.int .i64 x.w, .int .i64 x.h, .int .i64 x.s, .slice (some ⟨Y, 0, some 2⟩) x.m c] false) := by rw [ox _ (by omega) (by omega), hC2, get_push_new]
          have x4 : A'.get (A.n + 1) = some zeroG := by rw [ox _ (by omega) (by omega)]; exact eB3.get b2
          simp (disch := as_aux_lemma => first | omega | simp only [hDs] <;> omega | simp [isCell]) [hRs, takeMarks, resA, resAll, resOne, Value.cells, t4', t9', x10, x4, storeB_cells, setRange_all, get_set_same x4]
          have hA2n := hb.1
          refine hV _ _ ⟨by simp; omega, fun z hz => by rw [get_set_ne (by omega) (by omega), ox z (by omega) (by omega), e03.2 z hz]⟩ ?_
          rw [meaF, if_pos (show x.E = 0 from hE1), if_pos h4096, if_pos hr, hr']
          have hYn' := Hp.lt_of_get hA'
          refine GAt.tuple (x := { x with zs := cur }) ⟨_, rfl, ⟨by simp [hl'], .inr ⟨Y, c, false, rfl, ?_⟩⟩⟩
          rw [get_set_ne (by omega) (by omega)]
          exact hA'
        · have x4 : A'.get (A.n + 1) = some zeroG := by rw [hb.2 _ (by omega) (by omega)]; exact eB3.get b2
          simp (disch := as_aux_lemma => first | omega | simp only [hDs] <;> omega | simp [isCell]) [hRs, takeMarks, resA, resAll, resOne, Value.cells, t4', t5', t6', x4]
          have hA2n := hb.1
          refine hV _ _ ⟨by omega, fun z hz => by rw [hb.2 z (by omega) (by omega), e03.2 z hz]⟩ ?_
          rw [meaF, if_pos (show x.E = 0 from hE1), if_pos h4096, if_pos hr, hr']
          exact GAt.zero.tuple
        all_goals simp [t4, t1]
      · have x4 := (e1.trans e2).get b2
        simp (disch := as_aux_lemma => first | omega | simp only [hDs] <;> omega | simp [isCell]) [hRs, takeMarks, resA, resAll, resOne, Value.cells, t4, t5, t6, x4]
        have := hV A2 (.tuple ⟨[gridV 0 0 0 (.slice none 0 0), .int .i64 0, .int .i64 (sndE x.m ls n 0)]⟩) (eB.trans (e1.trans e2)) (by rw [meaF, if_pos (show x.E = 0 from hE1), if_pos h4096, if_neg hr]; exact GAt.zero.tuple)
        exact this
      all_goals simp
    · have hb := fin A1 9 e1 (by rw [meaF, if_pos (show x.E = 0 from hE1), if_neg h4096])
      simp (disch := as_aux_lemma => first | omega | simp only [hDs] <;> omega | simp [isCell]) [hRs, takeMarks, resA, resAll, resOne, Value.cells, hE1, hl, show (4096 : Int) < n by omega, e1.get b2, fillA, storeB_cells, setRange_all, get_set_same (e1.get b2)]
      exact hb
  · have hb := fin A1 x.E e1 (by rw [meaF, if_neg (show ¬ x.E = 0 from hE1)])
    simp (disch := as_aux_lemma => first | omega | simp only [hDs] <;> omega | simp [isCell]) [hRs, takeMarks, resA, resAll, resOne, Value.cells, hE1, e1.get b2, fillA, storeB_cells, setRange_all, get_set_same (e1.get b2)]
    exact hb
end
end Go.Ab.Grid
