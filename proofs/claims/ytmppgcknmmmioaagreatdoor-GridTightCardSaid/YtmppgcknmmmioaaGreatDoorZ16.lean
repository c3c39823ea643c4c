/- Tighten's sink, whole: one end of all spans. -/
import Derived.Test.YtmppgcknmmmioaaGreatDoorZ15
import Derived.Test.YtmppgcknmmmioaaGreatDoorZ14
set_option linter.unusedSimpArgs false
set_option linter.unusedVariables false
set_option linter.unusedSectionVars false
set_option maxRecDepth 100000
namespace Go.Ab.Grid
open Go Go.Ab
structure G where
  w : Int
  h : Int
  s : Int
  m : Nat
  zs : List Int
def G0 : G := ⟨0, 0, 0, 0, []⟩
def G.E (x : G) : Int := gridE x.w x.h x.s x.m x.zs
def GAt (A : Hp) (x : G) (v : Value) : Prop := ∃ sl, v = gridV x.w x.h x.s sl ∧ RdS A 2 x.m (ints x.zs) sl
theorem GAt.mono {A A' : Hp} {x : G} {v : Value} (h : GAt A x v) (e : Ext' A A') : GAt A' x v := by
  obtain ⟨sl, h1, h2⟩ := h; exact ⟨sl, h1, e.rdS h2⟩
theorem GAt.zero {A : Hp} : GAt A G0 (gridV 0 0 0 (.slice none 0 0)) := ⟨_, rfl, by simp [G0, ints], .inl ⟨rfl, rfl⟩⟩
theorem eqv2 {a b a' b' : Int} : eqvA true [false, false] (.agg ⟨[.int .i64 a, .int .i64 b]⟩) (.agg ⟨[.int .i64 a', .int .i64 b']⟩) = some (.bool (!(decide (a = a') && decide (b = b')))) := by
  simp [eqvA, eqCells, cellEq, kEq]
  rfl
theorem copy_fresh {g k bytes m : Nat} {A : Hp} {cs : List Value} {src : Value} (h : RdS A k m cs src) (hcell : cs.all isCell = true) (hg : g ≤ A.n) (hk : 0 < k) (hr : m * bytes ≤ room ∧ m ≤ room) :
    ∃ Y c A', appendA g (A.push (.cells [] false)) k bytes (.slice (some ⟨A.n, 0, some k⟩) 0 0) src = some (.slice (some ⟨Y, 0, some k⟩) m c, A') ∧ Ext' A A' ∧ A'.get Y = some (.cells cs false) ∧ A.n ≤ Y := by
  have e1 := Ext'.push A (.cells [] false)
  have hc := (h.push (x := .cells [] false)).cellsAt
  obtain ⟨p, c, rfl⟩ : ∃ p c, src = .slice p m c := by rcases h with ⟨_, ⟨rfl, rfl⟩ | ⟨_, _, _, rfl, _⟩⟩ <;> exact ⟨_, _, rfl⟩
  unfold appendA
  simp only [hc]
  rw [if_pos ⟨hcell, hk⟩]
  by_cases hm : m = 0
  · subst hm
    rw [if_pos rfl]
    refine ⟨_, _, _, rfl, e1, ?_, Nat.le_refl _⟩
    have : cs = [] := List.eq_nil_of_length_eq_zero (by have := h.1; simpa using this)
    rw [get_push_new, this]
  · rw [if_neg hm]
    simp only [get_push_new]
    rw [if_pos ⟨hg, by simpa using hr.1, by simpa using hr.2, trivial⟩, if_pos (by simp)]
    refine ⟨A.n + 1, m, ((A.push (.cells [] false)).set A.n none).push (.cells cs false), by simp, ⟨by simp; omega, fun z hz => ?_⟩, by rw [get_push_eq (by simp)], by omega⟩
    rw [get_push_old (by simp; omega), get_set_ne (by simp) (by omega), get_push_old hz]
section
variable {g : Nat} {rd : Option Nat} {T : List Value} {D : List Nat} {A : Hp} {Q : Ex → St → Prop} {V : Value → Hp → Prop}
theorem loop294 {n : Nat} {a b : List Int} {x y : Value} (ha : RdS A 2 n (ints a) x) (hb : RdS A 2 n (ints b) y) (hn : n < 1000000)
    (hQ : ∀ T', a = b → Q (.exit 0) ⟨T', D, A⟩) (hR : ∀ T', a ≠ b → tget T' 4 = .bool false → Q .ret ⟨T', D, A⟩) :
    ∀ (k i : Nat) {T : List Value}, i + k = n → (∀ j, j < i * 2 → gi a j = gi b j) → tget T 0 = x → tget T 1 = y → tget T 5 = .int .i64 i → W AP KL g rd (.loop body294) ⟨T, D, A⟩ Q := by
  intro k
  have la : a.length = n * 2 := by have := ha.1; simpa using this
  have lb : b.length = n * 2 := by have := hb.1; simpa using this
  have hl := ha.len
  induction k with
  | zero =>
    intro i T hi hp t0 t1 t5
    rw [W_loop]
    simp (disch := as_aux_lemma => first | omega | simp only [hDs] <;> omega | simp [isCell]) [hRs, takeMarks, resA, resAll, resOne, Value.cells, body294, t0, t1, t5, hl, show ¬ ((i : Int) < n) by omega]
    exact hQ _ (list_gi (by omega) fun j hj => hp j (by omega))
  | succ k ih =>
    intro i T hi hp t0 t1 t5
    have e5 : wr .i64 ((i : Int) + 1) = ((i + 1 : Nat) : Int) := by rw [wrId (by omega) (by omega)]; simp
    obtain ⟨xb, xc, xr, rfl, hxb⟩ := ha.at (show i < n by omega)
    obtain ⟨yb, yc, yr, rfl, hyb⟩ := hb.at (show i < n by omega)
    rw [W_loop]
    by_cases he : gi a (i * 2) = gi b (i * 2) ∧ gi a (i * 2 + 1) = gi b (i * 2 + 1)
    · simp (disch := as_aux_lemma => first | omega | simp only [hDs] <;> omega | simp [isCell]) [hRs, takeMarks, resA, resAll, resOne, Value.cells, body294, t0, t1, t5, hl, show ((i : Int) < n) by omega, show i < n by omega, idxSA_ok, hxb, hyb, ints_two, la, lb, he.1, he.2, e5, eqv2]
      refine ih (i + 1) (by omega) (fun j hj => ?_) ?_ ?_ ?_
      · by_cases h : j = i * 2
        · rw [h]; exact he.1
        · by_cases h' : j = i * 2 + 1
          · rw [h']; exact he.2
          · exact hp j (by omega)
      all_goals simp [t0, t1]
    · have hne : a ≠ b := fun h => he (by rw [h]; exact ⟨rfl, rfl⟩)
      have hd : (decide (gi a (i * 2) = gi b (i * 2)) && decide (gi a (i * 2 + 1) = gi b (i * 2 + 1))) = false := by simpa using he
      have hd' : (!decide (gi a (i * 2) = gi b (i * 2)) || !decide (gi a (i * 2 + 1) = gi b (i * 2 + 1))) = true := by rw [← Bool.not_and, hd]; rfl
      simp (disch := as_aux_lemma => first | omega | simp only [hDs] <;> omega | simp [isCell]) [hRs, takeMarks, resA, resAll, resOne, Value.cells, body294, t0, t1, t5, hl, show ((i : Int) < n) by omega, show i < n by omega, idxSA_ok, hxb, hyb, ints_two, la, lb, hd, hd', e5, eqv2]
      exact hR _ hne (by simp)
theorem w294 {na nb : Nat} {a b : List Int} {x y : Value} (ha : RdS A 2 na (ints a) x) (hb : RdS A 2 nb (ints b) y) (hn : na < 1000000) (hV : V (.bool (decide (a = b))) A) : WF AP KL g 294 [x, y] A V := by
  rw [WF_body (show KL 294 = none from rfl) (show AP 294 = some F294 from rfl)]
  have la : a.length = na * 2 := by have := ha.1; simpa using this
  have lb : b.length = nb * 2 := by have := hb.1; simpa using this
  have h1 := ha.len
  have h2 := hb.len
  by_cases he : na = nb
  · subst he
    simp (disch := as_aux_lemma => first | omega | simp only [hDs] <;> omega | simp [isCell]) [hRs, takeMarks, resA, resAll, resOne, Value.cells, F294, h1, h2]
    refine loop294 ha hb hn (fun T' he' => ?_) (fun T' he' t4 => ?_) na 0 (by omega) (fun j hj => by omega) ?_ ?_ ?_
    · simp (disch := as_aux_lemma => first | omega | simp only [hDs] <;> omega | simp [isCell]) [hRs, takeMarks, resA, resAll, resOne, Value.cells, he']
      simpa [he'] using hV
    · simp (disch := as_aux_lemma => first | omega | simp only [hDs] <;> omega | simp [isCell]) [hRs, takeMarks, resA, resAll, resOne, Value.cells, t4]
      simpa [he'] using hV
    all_goals simp
  · simp (disch := as_aux_lemma => first | omega | simp only [hDs] <;> omega | simp [isCell]) [hRs, takeMarks, resA, resAll, resOne, Value.cells, F294, h1, h2, show ¬ ((na : Int) = nb) by omega]
    have : a ≠ b := fun h => he (by rw [h] at la; omega)
    simpa [this] using hV
theorem w301 {x y : G} {vx vy : Value} (hx : GAt A x vx) (hy : GAt A y vy) (hn : x.m < 1000000) (he : x = y) (hV : ∀ A', Ext' A A' → V (.bool true) A') : WF AP KL g 301 [vx, vy] A V := by
  subst he
  obtain ⟨sx, rfl, rx⟩ := hx
  obtain ⟨sy, rfl, ry⟩ := hy
  rw [WF_body (show KL 301 = none from rfl) (show AP 301 = some F301 from rfl)]
  have e1 : Ext' A ((A.push (.cells [.int .i64 x.w, .int .i64 x.h, .int .i64 x.s, sx] false)).push (.cells [.int .i64 x.w, .int .i64 x.h, .int .i64 x.s, sy] false)) := (Ext'.push _ _).trans (Ext'.push _ _)
  simp (disch := as_aux_lemma => first | omega | simp only [hDs] <;> omega | simp [isCell]) [hRs, takeMarks, resA, resAll, resOne, Value.cells, F301, gridV]
  refine w294 (e1.rdS rx) (e1.rdS ry) hn ?_
  simp (disch := as_aux_lemma => first | omega | simp only [hDs] <;> omega | simp [isCell]) [hRs, takeMarks, resA, resAll, resOne, Value.cells]
  exact hV _ e1
theorem w161 {m : Nat} {zs : List Int} {sl : Value} (hsl : RdS A 2 m (ints zs) sl) (h0 : 0 < m) (hm : m < 1000000) (hg : g ≤ A.n)
    (hV : ∀ A' Y c, Ext' A A' → A.n ≤ Y → A'.get Y = some (.cells (ints zs) false) → V (.slice (some ⟨Y, 0, some 2⟩) m c) A') : WF AP KL g 161 [sl] A V := by
  rw [WF_body (show KL 161 = none from rfl) (show AP 161 = some F161 from rfl)]
  obtain ⟨xb, xc, xr, hs, hxb⟩ := hsl.at h0
  obtain ⟨Y, c, A', h1, e1, hY, hAY⟩ := copy_fresh (g := g) (bytes := 16) hsl (ints_isCell _) hg (by decide) (by unfold room; omega)
  subst hs
  simp (disch := as_aux_lemma => first | omega | simp only [hDs] <;> omega | simp [isCell]) [hRs, takeMarks, resA, resAll, resOne, Value.cells, F161, eqNilA, isNil, slitA, zeros, fillA, h1]
  exact hV _ _ _ e1 hAY hY
def OwnV (V : Value → Hp → Prop) (A : Hp) (w h s : Int) (m : Nat) (zs : List Int) : Prop :=
  ∀ A' Y c, Ext' A A' → A.n ≤ Y → A'.get Y = some (.cells (ints zs) false) → V (gridV w h s (.slice (some ⟨Y, 0, some 2⟩) m c)) A'
theorem w326 {w h s : Int} {m : Nat} {zs : List Int} {sl : Value} (hsl : RdS A 2 m (ints zs) sl) (h0 : 0 < m) (hm : m < 1000000) (hg : g ≤ A.n) (hV : OwnV V A w h s m zs) : WF AP KL g 326 [gridV w h s sl] A V := by
  rw [WF_body (show KL 326 = none from rfl) (show AP 326 = some F326 from rfl)]
  obtain ⟨B, hB⟩ : ∃ B, B = (A.push (.cells [.int .i64 w, .int .i64 h, .int .i64 s, sl] false)).push (.cells [.int .i64 0, .int .i64 0, .int .i64 0, .slice none 0 0] false) := ⟨_, rfl⟩
  have eB : Ext' A B := by rw [hB]; exact (Ext'.push _ _).trans (Ext'.push _ _)
  have nB : B.n = A.n + 2 := by rw [hB]; rfl
  have b0 : B.get A.n = some (.cells [.int .i64 w, .int .i64 h, .int .i64 s, sl] false) := by rw [hB, get_push_old (by simp), get_push_eq (by omega)]
  have b1 : B.get (A.n + 1) = some (.cells [.int .i64 0, .int .i64 0, .int .i64 0, .slice none 0 0] false) := by rw [hB, get_push_eq (by simp)]
  simp (disch := as_aux_lemma => first | omega | simp only [hDs] <;> omega | simp [isCell]) [hRs, takeMarks, resA, resAll, resOne, Value.cells, F326, gridV, ← hB, b0]
  refine w161 (eB.rdS hsl) h0 hm (by omega) fun A' Y c e' hAY hY => ?_
  have c0 := e'.get b0
  have c1 := e'.get b1
  have n' := e'.1
  obtain ⟨C, hC⟩ : ∃ C, C = A'.set A.n (some (.cells [.int .i64 w, .int .i64 h, .int .i64 s, .slice (some ⟨Y, 0, some 2⟩) m c] false)) := ⟨_, rfl⟩
  have d0 : C.get A.n = some (.cells [.int .i64 w, .int .i64 h, .int .i64 s, .slice (some ⟨Y, 0, some 2⟩) m c] false) := by rw [hC]; exact get_set_same c0
  have oC : ∀ z, z < A'.n → z ≠ A.n → C.get z = A'.get z := fun z hz hn => by rw [hC]; exact get_set_ne (by omega) hn
  have d1 : C.get (A.n + 1) = some (.cells [.int .i64 0, .int .i64 0, .int .i64 0, .slice none 0 0] false) := by rw [oC _ (by omega) (by omega)]; exact c1
  have nC : C.n = A'.n := by rw [hC]; rfl
  simp (disch := as_aux_lemma => first | omega | simp only [hDs] <;> omega | simp [isCell]) [hRs, takeMarks, resA, resAll, resOne, Value.cells, c0, storeB_cells, setRange, ← hC, d0, d1, setRange_all, get_set_same d1]
  have oD : ∀ z, z < A'.n → z ≠ A.n → z ≠ A.n + 1 → (C.set (A.n + 1) (some (.cells [.int .i64 w, .int .i64 h, .int .i64 s, .slice (some ⟨Y, 0, some 2⟩) m c] false))).get z = A'.get z := fun z hz h1 h2 => by rw [get_set_ne (by omega) h2, oC z hz h1]
  have hYn := Hp.lt_of_get hY
  exact hV _ Y c ⟨by simp; omega, fun z hz => by rw [oD z (by omega) (by omega) (by omega), e'.2 z (by omega), eB.2 z hz]⟩ (by omega) (by rw [oD Y hYn (by omega) (by omega)]; exact hY)
end
end Go.Ab.Grid
set_option maxRecDepth 100000
namespace Go.Ab.Grid
open Go Go.Ab
def GV3 (A : Hp) (r : G × Int × Int) (v : Value) : Prop := ∃ vg, v = .tuple ⟨[vg, .int .i64 r.2.1, .int .i64 r.2.2]⟩ ∧ GAt A r.1 vg
theorem _root_.Go.Ab.RdS.isSlice' {A : Hp} {k n : Nat} {cs : List Value} {sv : Value} (h : RdS A k n cs sv) : ∃ p c, sv = .slice p n c := by
  rcases h with ⟨_, ⟨rfl, rfl⟩ | ⟨_, _, _, rfl, _⟩⟩ <;> exact ⟨_, _, rfl⟩
theorem set_same {A : Hp} {x : Nat} {b : ABlk} (h : A.get x = some b) : Ext' A (A.set x (some b)) := by
  have hn := Hp.lt_of_get h
  refine ⟨by simp, fun z hz => ?_⟩
  by_cases hzx : z = x
  · subst hzx; rw [get_set_same h, h]
  · exact get_set_ne hn hzx
abbrev zeroG : ABlk := .cells [.int .i64 0, .int .i64 0, .int .i64 0, .slice none 0 0] false
section
variable {g : Nat} {rd : Option Nat} {T : List Value} {D : List Nat} {A : Hp} {Q : Ex → St → Prop} {V : Value → Hp → Prop}
theorem GAt.tuple {A : Hp} {x : G} {vg : Value} {i e : Int} (h : GAt A x vg) : GV3 A (x, i, e) (.tuple ⟨[vg, .int .i64 i, .int .i64 e]⟩) := ⟨vg, rfl, h⟩
end
end Go.Ab.Grid
set_option maxRecDepth 100000
namespace Go.Ab.Grid
open Go Go.Ab
@[simp] theorem GuardW_un {AP : Nat → Option AFunc} {K : Nat → Option Spec} {g : Nat} {dst : Option Nat} {op : AOp} {l : List AOper} {T : List Value} {A : Hp} {R : List Value → Hp → Prop} {b : Bool} :
    GuardW AP K g dst op l T A R b undef = WO AP K g l (putA dst T undef) A R := rfl
section
variable {g : Nat} {rd : Option Nat} {T : List Value} {D : List Nat} {A : Hp} {Q : Ex → St → Prop} {V : Value → Hp → Prop}
end
end Go.Ab.Grid
set_option maxRecDepth 100000
namespace Go.Ab.Grid
open Go Go.Ab
def sndC (m : Nat) (ls : List Int) (i : Nat) : Int :=
  if (decide (0 ≤ gi ls (i * 3)) && decide (gi ls (i * 3) ≤ (m : Int) - 1)) = true then
    if (decide (-1200000 ≤ gi ls (i * 3 + 1)) && decide (gi ls (i * 3 + 1) ≤ 1200000)) = true then if (decide (0 ≤ gi ls (i * 3 + 2)) && decide (gi ls (i * 3 + 2) ≤ 100000)) = true then 0 else 3 else 3
  else 4
section
variable {g : Nat} {rd : Option Nat} {T : List Value} {D : List Nat} {A : Hp} {Q : Ex → St → Prop} {V : Value → Hp → Prop}
end
end Go.Ab.Grid
set_option maxRecDepth 100000
namespace Go.Ab.Grid
open Go Go.Ab
section
variable {g : Nat} {rd : Option Nat} {T : List Value} {D : List Nat} {A : Hp} {Q : Ex → St → Prop} {V : Value → Hp → Prop}
end
end Go.Ab.Grid
set_option maxRecDepth 100000
namespace Go.Ab.Grid
open Go Go.Ab
section
variable {g : Nat} {rd : Option Nat} {T : List Value} {D : List Nat} {A : Hp} {Q : Ex → St → Prop} {V : Value → Hp → Prop}
end
end Go.Ab.Grid
set_option maxRecDepth 100000
namespace Go.Ab.Grid
open Go Go.Ab
structure Land where
  wide : Int
  high : Int
  nl : Nat
  low : List Int
  nm : Nat
  more : List Int
def Land.lo (L : Land) (i : Nat) : Int := if 0 < L.nl then gi L.low (i % L.nl) else 0
def Land.hi (L : Land) (i : Nat) : Int := L.lo i + if 0 < L.nm then gi L.more (i % L.nm) else 0
def Land.w (L : Land) : Int := 1 + L.wide.tmod 5
def Land.h (L : Land) : Int := 1 + L.high.tmod 5
def Land.n (L : Land) : Nat := (L.w * L.h).toNat
def Land.zs (L : Land) : Nat → List Int
  | 0 => []
  | i + 1 => L.zs i ++ [L.lo i, L.hi i]
def Land.G (L : Land) : G := ⟨L.w, L.h, 100, L.n, L.zs L.n⟩
structure Land.Ok (L : Land) : Prop where
  wide : 0 ≤ L.wide ∧ L.wide ≤ 255
  high : 0 ≤ L.high ∧ L.high ≤ 255
  low : ∀ i, -32768 ≤ gi L.low i ∧ gi L.low i ≤ 32767
  more : ∀ i, 0 ≤ gi L.more i ∧ gi L.more i ≤ 255
  nl : L.low.length = L.nl ∧ L.nl ≤ 9223372036854775807
  nm : L.more.length = L.nm ∧ L.nm ≤ 9223372036854775807
def Land.At (L : Land) (A : Hp) (sl sm : Value) : Prop := RdS A 1 L.nl (kints .i16 L.low) sl ∧ RdS A 1 L.nm (kints .u8 L.more) sm
def Land.V (L : Land) (sl sm : Value) : Value := .agg ⟨[.int .u8 L.wide, .int .u8 L.high, sl, sm]⟩
theorem Land.zs_len {L : Land} : ∀ {i : Nat}, (L.zs i).length = i * 2
  | 0 => rfl
  | i + 1 => by rw [Land.zs, List.length_append, Land.zs_len]; simp; omega
theorem Land.Ok.w {L : Land} (h : L.Ok) : 1 ≤ L.w ∧ L.w ≤ 5 := by
  have h1 := Int.tmod_nonneg 5 h.wide.1
  have h2 := Int.tmod_lt_of_pos L.wide (show (0 : Int) < 5 by decide)
  unfold Land.w; omega
theorem Land.Ok.h {L : Land} (h : L.Ok) : 1 ≤ L.h ∧ L.h ≤ 5 := by
  have h1 := Int.tmod_nonneg 5 h.high.1
  have h2 := Int.tmod_lt_of_pos L.high (show (0 : Int) < 5 by decide)
  unfold Land.h; omega
theorem Land.Ok.n {L : Land} (h : L.Ok) : (L.n : Int) = L.w * L.h ∧ 1 ≤ L.n ∧ L.n ≤ 25 := by
  have a := Int.mul_le_mul h.w.1 h.h.1 (by decide) (by have := h.w; omega)
  have b := Int.mul_le_mul h.w.2 h.h.2 (by have := h.h; omega) (by decide)
  unfold Land.n; omega
section
variable {g : Nat} {rd : Option Nat} {T : List Value} {D : List Nat} {A : Hp} {Q : Ex → St → Prop} {V : Value → Hp → Prop}
theorem loop310 {A0 : Hp} {L : Land} {sl sm : Value} {XL X3 N : Nat} (hO : L.Ok) (hat : L.At A0 sl sm) (hXL : A0.get XL = some (.cells [.int .u8 L.wide, .int .u8 L.high, sl, sm] false)) (hN : A0.n = N) (hX3 : X3 < N) (hg3 : g ≤ X3) (hg : g ≤ N) (hne : XL ≠ X3) (hsl3 : ∀ z, blkOf sl = some z → z ≠ X3) (hsm3 : ∀ z, blkOf sm = some z → z ≠ X3)
    (hQ : ∀ T' A' sv, But X3 A0 A' → A'.get X3 = some (.cells [.int .i64 L.w, .int .i64 L.h, .int .i64 100, sv] false) → AccS N A' 2 (ints (L.zs L.n)) sv → tget T' 2 = tget T 2 → tget T' 3 = .pointer (some ⟨X3, 0, none⟩) → Q (.exit 0) ⟨T', D, A'⟩) :
    ∀ (k i : Nat) {T1 : List Value} {A : Hp} (sv : Value), i + k = L.n → But X3 A0 A → A.get X3 = some (.cells [.int .i64 L.w, .int .i64 L.h, .int .i64 100, sv] false) → AccS N A 2 (ints (L.zs i)) sv → tget T1 2 = tget T 2 →
      tget T1 1 = .pointer (some ⟨XL, 0, none⟩) → tget T1 3 = .pointer (some ⟨X3, 0, none⟩) → tget T1 21 = .int .i64 L.n → tget T1 22 = .int .i64 i → W AP KL g rd (.loop body310) ⟨T1, D, A⟩ Q := by
  intro k
  have hnb := hO.n
  have hXLn := Hp.lt_of_get hXL
  induction k with
  | zero =>
    intro i T1 A sv hi hb h3 hacc k2 t1 t3 t21 t22
    have : i = L.n := by omega
    subst this
    rw [W_loop]
    simp (disch := as_aux_lemma => first | omega | simp only [hDs] <;> omega | simp [isCell]) [hRs, takeMarks, resA, resAll, resOne, Value.cells, body310, t21, t22]
    exact hQ _ _ sv hb h3 hacc (by simp [k2]) (by simp [t3])
  | succ k ih =>
    intro i T1 A sv hi hb h3 hacc k2 t1 t3 t21 t22
    have e5 : wr .i64 ((i : Int) + 1) = ((i + 1 : Nat) : Int) := by rw [wrId (by omega) (by omega)]; simp
    have hAn := hb.1
    have aL : A.get XL = some (.cells [.int .u8 L.wide, .int .u8 L.high, sl, sm] false) := by rw [hb.2 _ hXLn hne]; exact hXL
    have hslA := hat.1.keepB (A' := A) fun z hz => hb.2 z (hat.1.blk_lt hz) (hsl3 z hz)
    have hsmA := hat.2.keepB (A' := A) fun z hz => hb.2 z (hat.2.blk_lt hz) (hsm3 z hz)
    have ll := hslA.len
    have lm := hsmA.len
    have olo : -32768 ≤ L.lo i ∧ L.lo i ≤ 32767 := by unfold Land.lo; split; exact hO.low _; omega
    obtain ⟨dd, hdd, hdd0⟩ : ∃ dd, dd = (if 0 < L.nm then gi L.more (i % L.nm) else 0) ∧ 0 ≤ dd ∧ dd ≤ 255 := ⟨_, rfl, by split; exact hO.more _; omega⟩
    have hhi : L.hi i = L.lo i + dd := by rw [Land.hi, hdd]
    have e6 : wr .i64 (L.lo i) = L.lo i := wrId (by omega) (by omega)
    have e7 : wr .i64 dd = dd := wrId (by omega) (by omega)
    have e8 : wr .i64 (L.lo i + dd) = L.lo i + dd := wrId (by omega) (by omega)
    obtain ⟨sv', A1, a1, a2, a3, a4⟩ := append_acc (g := g) (bytes := 16) (y := A.n + 1) (A := (A.push (.cells [.int .i64 (L.lo i), .int .i64 (L.lo i + dd)] false)).push (.cells [.int .i64 (L.lo i), .int .i64 (L.lo i + dd)] false)) (new := [.int .i64 (L.lo i), .int .i64 (L.lo i + dd)]) (ro := false) (n := i)
      (hacc.mono ((Ext'.push A _).trans (Ext'.push _ _)).2) (by omega) (by simp; omega) (get_push_eq (by simp)) rfl (by decide) rfl (by simp [Land.zs_len]) (by unfold room; omega)
    rw [show ints (L.zs i) ++ [.int .i64 (L.lo i), .int .i64 (L.lo i + dd)] = ints (L.zs (i + 1)) by rw [Land.zs, ints_append, hhi]; rfl] at a2
    obtain ⟨ad, nn, cc, rfl⟩ : ∃ ad nn cc, sv' = .slice ad nn cc := by rcases a2 with ⟨rfl, _⟩ | ⟨_, _, rfl, _⟩ <;> exact ⟨_, _, _, rfl⟩
    have c3 : A1.get X3 = some (.cells [.int .i64 L.w, .int .i64 L.h, .int .i64 100, sv] false) := by rw [a3 _ (by omega), get_push_old (by simp; omega), get_push_old (by omega)]; exact h3
    have hfin : ∀ T2, tget T2 2 = tget T 2 → tget T2 1 = .pointer (some ⟨XL, 0, none⟩) → tget T2 3 = .pointer (some ⟨X3, 0, none⟩) → tget T2 21 = .int .i64 L.n → tget T2 22 = .int .i64 ((i + 1 : Nat) : Int) →
        W AP KL g rd (.loop body310) ⟨T2, D, A1.set X3 (some (.cells [.int .i64 L.w, .int .i64 L.h, .int .i64 100, .slice ad nn cc] false))⟩ Q := fun T2 j2 j1 j3 j21 j22 => by
      have o1 : ∀ z, z < A1.n → z ≠ X3 → (A1.set X3 (some (.cells [.int .i64 L.w, .int .i64 L.h, .int .i64 100, .slice ad nn cc] false))).get z = A1.get z := fun z hz hzn => get_set_ne (Hp.lt_of_get c3) hzn
      refine ih (i + 1) (.slice ad nn cc) (by omega) ⟨by simp [a4]; omega, fun z hz hzn => ?_⟩ (get_set_same c3) (a2.keepB fun b hbb => o1 b (a2.blk_ge hbb).2 (by have := (a2.blk_ge hbb).1; omega)) j2 j1 j3 j21 j22
      rw [o1 z (by rw [a4]; simp; omega) hzn, a3 z (by omega), get_push_old (by simp; omega), get_push_old (by omega), hb.2 z hz hzn]
    have z1 : zeros 1 [Value.int .i64 0, .int .i64 0] = [.int .i64 0, .int .i64 0] := rfl
    rw [W_loop]
    by_cases hl : 0 < L.nl
    · have em : ((i : Int).tmod L.nl) = ((i % L.nl : Nat) : Int) := by rw [Int.tmod_eq_emod_of_nonneg (by omega)]; simp
      have hml : i % L.nl < L.nl := Nat.mod_lt _ hl
      have en : ((i : Int) % (L.nl : Int)).toNat = i % L.nl := by rw [← Int.natCast_emod]; exact Int.toNat_natCast _
      obtain ⟨xb, xc, xr, rfl, hxb⟩ := hslA.at hl
      have hxbn := Hp.lt_of_get hxb
      have elo : L.lo i = gi L.low (i % L.nl) := if_pos hl
      rw [elo] at e6 e8 a1
      by_cases hm : 0 < L.nm
      · have em2 : ((i : Int).tmod L.nm) = ((i % L.nm : Nat) : Int) := by rw [Int.tmod_eq_emod_of_nonneg (by omega)]; simp
        have hmm : i % L.nm < L.nm := Nat.mod_lt _ hm
        have en2 : ((i : Int) % (L.nm : Int)).toNat = i % L.nm := by rw [← Int.natCast_emod]; exact Int.toNat_natCast _
        obtain ⟨yb, yc, yr, rfl, hxm⟩ := hsmA.at hm
        have hxmn := Hp.lt_of_get hxm
        rw [if_pos hm] at hdd
        subst hdd
        simp (disch := as_aux_lemma => first | omega | simp only [hDs] <;> omega | simp [isCell]) [hRs, takeMarks, resA, resAll, resOne, Value.cells, body310, t1, t3, t21, t22, show ((i : Int) < L.n) by omega, fillA, storeB_cells, setRange_all, set_push_eq, aL, ll, lm, h3, idxSA_ok, setRange, slitA, z1, a1, c3, toIntA, e5, hl, binA_rem (show ((L.nl : Nat) : Int) ≠ 0 by omega), em, en, hml, hxb, kints_get (k := .i16) (show i % L.nl < L.low.length by rw [hO.nl.1]; exact hml), e6, hm, binA_rem (show ((L.nm : Nat) : Int) ≠ 0 by omega), em2, en2, hmm, hxm, kints_get (k := .u8) (show i % L.nm < L.more.length by rw [hO.nm.1]; exact hmm), e7, e8]
        exact hfin _ (by simp [k2]) (by simp [t1]) (by simp [t3]) (by simp [t21]) (by simp)
      · rw [if_neg hm] at hdd
        subst hdd
        try simp only [Int.add_zero] at a1
        simp (disch := as_aux_lemma => first | omega | simp only [hDs] <;> omega | simp [isCell]) [hRs, takeMarks, resA, resAll, resOne, Value.cells, body310, t1, t3, t21, t22, show ((i : Int) < L.n) by omega, fillA, storeB_cells, setRange_all, set_push_eq, aL, ll, lm, h3, idxSA_ok, setRange, slitA, z1, a1, c3, toIntA, e5, hl, binA_rem (show ((L.nl : Nat) : Int) ≠ 0 by omega), em, en, hml, hxb, kints_get (k := .i16) (show i % L.nl < L.low.length by rw [hO.nl.1]; exact hml), e6, hm, show L.nm = 0 by omega]
        exact hfin _ (by simp [k2]) (by simp [t1]) (by simp [t3]) (by simp [t21]) (by simp)
    · have elo : L.lo i = 0 := if_neg hl
      rw [elo] at e6 e8 a1
      simp only [Int.zero_add] at e8 a1
      by_cases hm : 0 < L.nm
      · have em2 : ((i : Int).tmod L.nm) = ((i % L.nm : Nat) : Int) := by rw [Int.tmod_eq_emod_of_nonneg (by omega)]; simp
        have hmm : i % L.nm < L.nm := Nat.mod_lt _ hm
        have en2 : ((i : Int) % (L.nm : Int)).toNat = i % L.nm := by rw [← Int.natCast_emod]; exact Int.toNat_natCast _
        obtain ⟨yb, yc, yr, rfl, hxm⟩ := hsmA.at hm
        have hxmn := Hp.lt_of_get hxm
        rw [if_pos hm] at hdd
        subst hdd
        simp (disch := as_aux_lemma => first | omega | simp only [hDs] <;> omega | simp [isCell]) [hRs, takeMarks, resA, resAll, resOne, Value.cells, body310, t1, t3, t21, t22, show ((i : Int) < L.n) by omega, fillA, storeB_cells, setRange_all, set_push_eq, aL, ll, lm, h3, idxSA_ok, setRange, slitA, z1, a1, c3, toIntA, e5, hl, show L.nl = 0 by omega, hm, binA_rem (show ((L.nm : Nat) : Int) ≠ 0 by omega), em2, en2, hmm, hxm, kints_get (k := .u8) (show i % L.nm < L.more.length by rw [hO.nm.1]; exact hmm), e7, e8]
        exact hfin _ (by simp [k2]) (by simp [t1]) (by simp [t3]) (by simp [t21]) (by simp)
      · rw [if_neg hm] at hdd
        subst hdd
        try simp only [Int.add_zero] at a1
        simp (disch := as_aux_lemma => first | omega | simp only [hDs] <;> omega | simp [isCell]) [hRs, takeMarks, resA, resAll, resOne, Value.cells, body310, t1, t3, t21, t22, show ((i : Int) < L.n) by omega, fillA, storeB_cells, setRange_all, set_push_eq, aL, ll, lm, h3, idxSA_ok, setRange, slitA, z1, a1, c3, toIntA, e5, hl, show L.nl = 0 by omega, hm, show L.nm = 0 by omega]
        exact hfin _ (by simp [k2]) (by simp [t1]) (by simp [t3]) (by simp [t21]) (by simp)
theorem w310 {L : Land} {sl sm : Value} (hO : L.Ok) (hat : L.At A sl sm) (hg : g ≤ A.n) (hV : ∀ A' v, Ext' A A' → GAt A' L.G v → V v A') : WF AP KL g 310 [L.V sl sm] A V := by
  obtain ⟨pl, cl, rfl⟩ := hat.1.isSlice'
  obtain ⟨pm, cm, rfl⟩ := hat.2.isSlice'
  have hnb := hO.n
  have hw := hO.w
  have hh := hO.h
  rw [WF_body (show KL 310 = none from rfl) (show AP 310 = some F310 from rfl)]
  have ew : wr .i64 L.wide = L.wide := wrId (by have := hO.wide; omega) (by have := hO.wide; omega)
  have eh : wr .i64 L.high = L.high := wrId (by have := hO.high; omega) (by have := hO.high; omega)
  have e1 : wr .i64 (1 + L.wide.tmod 5) = L.w := by show _ = 1 + L.wide.tmod 5; exact wrId (by have := hw; unfold Land.w at this; omega) (by have := hw; unfold Land.w at this; omega)
  have e2 : wr .i64 (1 + L.high.tmod 5) = L.h := by show _ = 1 + L.high.tmod 5; exact wrId (by have := hh; unfold Land.h at this; omega) (by have := hh; unfold Land.h at this; omega)
  have e3 : wr .i64 (L.w * L.h) = (L.n : Int) := by rw [← hnb.1]; exact wrId (by omega) (by omega)
  obtain ⟨B, hB⟩ : ∃ B, B = ((A.push (.cells [.int .u8 L.wide, .int .u8 L.high, .slice pl L.nl cl, .slice pm L.nm cm] false)).push zeroG).push (.cells [.int .i64 L.w, .int .i64 L.h, .int .i64 100, .slice none 0 0] false) := ⟨_, rfl⟩
  have eB : Ext' A B := by rw [hB]; exact ((Ext'.push _ _).trans (Ext'.push _ _)).trans (Ext'.push _ _)
  have nB : B.n = A.n + 3 := by rw [hB]; rfl
  have b0 : B.get A.n = some (.cells [.int .u8 L.wide, .int .u8 L.high, .slice pl L.nl cl, .slice pm L.nm cm] false) := by rw [hB, get_push_old (by simp; omega), get_push_old (by simp), get_push_eq (by omega)]
  have b1 : B.get (A.n + 1) = some zeroG := by rw [hB, get_push_old (by simp), get_push_eq (by simp)]
  have b2 : B.get (A.n + 2) = some (.cells [.int .i64 L.w, .int .i64 L.h, .int .i64 100, .slice none 0 0] false) := by rw [hB, get_push_eq (by simp)]
  unfold zeroG at hB
  simp (disch := as_aux_lemma => first | omega | simp only [hDs] <;> omega | simp [isCell]) [hRs, takeMarks, resA, resAll, resOne, Value.cells, F310, Land.V, toIntA, ew, eh, binA_rem (show (5 : Int) ≠ 0 by decide), e1, e2, e3, fillA, setRange, storeB_cells, set_push_eq, setRange_all, ← hB, b2]
  refine loop310 (A0 := B) (L := L) (XL := A.n) (X3 := A.n + 2) (N := B.n) hO ⟨eB.rdS hat.1, eB.rdS hat.2⟩ b0 rfl (by omega) (by omega) (by omega) (by omega) (fun z hz => by have := hat.1.blk_lt hz; omega) (fun z hz => by have := hat.2.blk_lt hz; omega)
    (fun T' A' sv hb h3 hacc k2 t3 => ?_) L.n 0 (.slice none 0 0) (by omega) (But.of_ext ⟨Nat.le_refl _, fun _ _ => rfl⟩) b2 AccS.nil rfl ?_ ?_ ?_ ?_
  · simp at k2
    have hn := hb.1
    have c1 : A'.get (A.n + 1) = some zeroG := by rw [hb.2 _ (by omega) (by omega)]; exact b1
    obtain ⟨ad, nn, cc, rfl⟩ : ∃ ad nn cc, sv = .slice ad nn cc := by rcases hacc with ⟨rfl, _⟩ | ⟨_, _, rfl, _⟩ <;> exact ⟨_, _, _, rfl⟩
    simp (disch := as_aux_lemma => first | omega | simp only [hDs] <;> omega | simp [isCell]) [hRs, takeMarks, resA, resAll, resOne, Value.cells, k2, t3, h3, c1, storeB_cells, setRange_all, get_set_same c1]
    have o1 : ∀ (b : Option ABlk) z, z ≠ A.n + 1 → (A'.set (A.n + 1) b).get z = A'.get z := fun b z hz => get_set_ne (by omega) hz
    refine hV _ _ ⟨by simp; omega, fun z hz => by rw [o1 _ z (by omega), hb.2 z (by omega) (by omega), eB.2 z hz]⟩ ⟨_, rfl, ?_⟩
    have hacc' := hacc.keepB (A' := A'.set (A.n + 1) (some (.cells [.int .i64 L.w, .int .i64 L.h, .int .i64 100, .slice ad nn cc] false))) fun b hbb => o1 _ b (by have := (hacc.blk_ge hbb).1; omega)
    obtain ⟨q, hq⟩ := hacc'.rdS
    have : q = L.n := by have := hq.1; simp [Land.zs_len] at this; omega
    subst this
    exact hq
  · simp
  · simp
  · simp
  · simp
end
end Go.Ab.Grid
set_option maxRecDepth 100000
namespace Go.Ab.Grid
open Go Go.Ab
def upN (up : Bool) : Nat := if up then 1 else 0
def sPar (up : Bool) (bar : Option Nat) (w h : Int) (m : Nat) (zs : List Int) (sea : List Nat) : SPar := ⟨m, fun c => if some c = bar then 1073741824 else gi zs (c * 2 + upN up), fun c => (nbrs w h c).map Int.toNat, sea⟩
theorem sPar_line {up : Bool} {bar : Option Nat} {w h s : Int} {m : Nat} {zs : List Int} {sea : List Nat} (hE : gridE w h s m zs = 0) (hm60 : m ≤ 60) (hsea : ∀ c, c ∈ sea → c < m) : SLine (sPar up bar w h m zs sea) w h := by
  obtain ⟨hw, hh, hm, hv⟩ := gridE_parts hE
  have h1 := Int.mul_le_mul hw.1 hh.1 (by decide) (by omega)
  refine ⟨⟨fun c hc d hd => ?_, fun c hc => hsea c hc, fun c hc => ?_⟩, ⟨by show 1 ≤ m; omega, hm60⟩, hw, hh, hm.symm, fun _ _ => rfl⟩
  · obtain ⟨x, hx, rfl⟩ := List.mem_map.1 hd
    have := nbrs_range hw.1 hx
    show x.toNat < m
    omega
  · have := hv c hc
    show _ ≤ (if some c = bar then 1073741824 else gi zs (c * 2 + upN up)) ∧ (if some c = bar then 1073741824 else gi zs (c * 2 + upN up)) ≤ _
    split
    · omega
    · cases up
      · show _ ≤ gi zs (c * 2) ∧ gi zs (c * 2) ≤ _
        omega
      · show _ ≤ gi zs (c * 2 + 1) ∧ gi zs (c * 2 + 1) ≤ _
        omega
def castS (sea : List Nat) : List Int := sea.map fun (x : Nat) => (x : Int)
section
variable {g : Nat} {rd : Option Nat} {T : List Value} {D : List Nat} {A : Hp} {Q : Ex → St → Prop} {V : Value → Hp → Prop}
end
section
variable {g : Nat} {rd : Option Nat} {T : List Value} {D : List Nat} {A : Hp} {Q : Ex → St → Prop} {V : Value → Hp → Prop}
end
end Go.Ab.Grid
set_option maxRecDepth 100000
namespace Go.Ab.Grid
open Go Go.Ab
def seaN (cs : List Int) : List Nat := cs.map Int.toNat
section
variable {g : Nat} {rd : Option Nat} {T : List Value} {D : List Nat} {A : Hp} {Q : Ex → St → Prop} {V : Value → Hp → Prop}
end
end Go.Ab.Grid
set_option maxRecDepth 100000
namespace Go.Ab.Grid
open Go Go.Ab
def gB (l : List Bool) (i : Nat) : Bool := l.getD i false
section
variable {g : Nat} {rd : Option Nat} {T : List Value} {D : List Nat} {A : Hp} {Q : Ex → St → Prop} {V : Value → Hp → Prop}
end
end Go.Ab.Grid
set_option maxRecDepth 100000
namespace Go.Ab.Grid
open Go Go.Ab
section
variable {g : Nat} {rd : Option Nat} {T : List Value} {D : List Nat} {A : Hp} {Q : Ex → St → Prop} {V : Value → Hp → Prop}
theorem w314 {a b c d : Int} (h : c ≤ a ∧ b ≤ d ∧ a ≤ b) (hV : ∀ A', Ext' A A' → V (.bool true) A') : WF AP KL g 314 [.agg ⟨[.int .i64 a, .int .i64 b]⟩, .agg ⟨[.int .i64 c, .int .i64 d]⟩] A V := by
  rw [WF_body (show KL 314 = none from rfl) (show AP 314 = some F314 from rfl)]
  simp (disch := as_aux_lemma => first | omega | simp only [hDs] <;> omega | simp [isCell]) [hRs, takeMarks, resA, resAll, resOne, Value.cells, F314, h.1, h.2.1, h.2.2]
  exact hV _ ((Ext'.push _ _).trans (Ext'.push _ _))
end
end Go.Ab.Grid
set_option maxRecDepth 100000
namespace Go.Ab.Grid
open Go Go.Ab
structure Ord where
  n : Nat
  cs : List Int
  nh : Nat
  hs : List Int
  ne : Nat
  es : List Int
  m : Nat
def Ord.c (o : Ord) (i : Nat) : Int := (gi o.cs i).tmod o.m
def Ord.h (o : Ord) (i : Nat) : Int := gi o.hs (i % o.nh)
def Ord.e (o : Ord) (i : Nat) : Int := gi o.es (i % o.ne)
def Ord.ls (o : Ord) : Nat → List Int
  | 0 => []
  | i + 1 => o.ls i ++ [o.c i, o.h i, o.e i]
def Ord.rv (o : Ord) : Nat → List Int
  | 0 => []
  | i + 1 => [o.c i, o.h i, o.e i] ++ o.rv i
def wset (cur : List Int) (c : Nat) (lo hi : Int) : List Int := (cur.set (c * 2) (max (gi cur (c * 2)) lo)).set (c * 2 + 1) (min (gi cur (c * 2 + 1)) hi)
def Ord.want (o : Ord) (zs : List Int) : Nat → List Int
  | 0 => zs
  | i + 1 => wset (o.want zs i) (o.c i).toNat (o.h i - o.e i) (o.h i + o.e i)
structure Ord.Ok (o : Ord) : Prop where
  n : o.cs.length = o.n ∧ o.n ≤ 12
  nh : o.hs.length = o.nh ∧ 0 < o.nh ∧ o.nh ≤ 9223372036854775807
  ne : o.es.length = o.ne ∧ 0 < o.ne ∧ o.ne ≤ 9223372036854775807
  m : 1 ≤ o.m ∧ o.m ≤ 25
  c : ∀ i, 0 ≤ gi o.cs i ∧ gi o.cs i ≤ 255
  h : ∀ i, -32768 ≤ gi o.hs i ∧ gi o.hs i ≤ 32767
  e : ∀ i, 0 ≤ gi o.es i ∧ gi o.es i ≤ 255
theorem Ord.Ok.cr {o : Ord} (h : o.Ok) (i : Nat) : 0 ≤ o.c i ∧ o.c i < o.m := ⟨Int.tmod_nonneg _ (h.c i).1, Int.tmod_lt_of_pos _ (by have := h.m; omega)⟩
section
variable {g : Nat} {rd : Option Nat} {T : List Value} {D : List Nat} {A : Hp} {Q : Ex → St → Prop} {V : Value → Hp → Prop}
structure OrdI (o : Ord) (zs : List Int) (A0 : Hp) (Y : Nat) (i : Nat) (s10 s11 : Value) (A : Hp) : Prop where
  hb : But Y A0 A
  hY : A.get Y = some (.cells (ints (o.want zs i)) false)
  a10 : AccS A0.n A 3 (ints (o.ls i)) s10
  a11 : RdS A 3 i (ints (o.rv i)) s11
  b11 : ∀ z, blkOf s11 = some z → A0.n ≤ z ∧ blkOf s10 ≠ some z
end
end Go.Ab.Grid
set_option maxRecDepth 100000
namespace Go.Ab.Grid
open Go Go.Ab
section
variable {g : Nat} {rd : Option Nat} {T : List Value} {D : List Nat} {A : Hp} {Q : Ex → St → Prop} {V : Value → Hp → Prop}
end
end Go.Ab.Grid
set_option maxRecDepth 100000
namespace Go.Ab.Grid
open Go Go.Ab
structure NarR (zs : List Int) (m : Nat) (R : Nat → Int → Int → Prop) (cur : List Int) : Prop where
  len : cur.length = m * 2
  lo : ∀ j, j < m → ∀ t, gi cur (j * 2) ≤ t ↔ gi zs (j * 2) ≤ t ∧ ∀ a b, R j a b → a ≤ t
  hi : ∀ j, j < m → ∀ t, t ≤ gi cur (j * 2 + 1) ↔ t ≤ gi zs (j * 2 + 1) ∧ ∀ a b, R j a b → t ≤ b
theorem wset_lo {cur : List Int} {c j : Nat} {lo hi : Int} (h : c * 2 + 2 ≤ cur.length) : gi (wset cur c lo hi) (j * 2) = if j = c then max (gi cur (c * 2)) lo else gi cur (j * 2) := by
  unfold wset
  rw [gi_setI (by simp; omega), if_neg (by omega), gi_setI (by omega)]
  by_cases h' : j = c
  · rw [if_pos (by omega), if_pos h']
  · rw [if_neg (by omega), if_neg h']
theorem wset_hi {cur : List Int} {c j : Nat} {lo hi : Int} (h : c * 2 + 2 ≤ cur.length) : gi (wset cur c lo hi) (j * 2 + 1) = if j = c then min (gi cur (c * 2 + 1)) hi else gi cur (j * 2 + 1) := by
  unfold wset
  rw [gi_setI (by simp; omega)]
  by_cases h' : j = c
  · rw [if_pos (by omega), if_pos h']
  · rw [if_neg (by omega), if_neg h', gi_setI (by omega), if_neg (by omega)]
theorem NarR.start {zs : List Int} {m : Nat} (h : zs.length = m * 2) : NarR zs m (fun _ _ _ => False) zs := ⟨h, fun _ _ _ => by simp, fun _ _ _ => by simp⟩
theorem NarR.congr {zs : List Int} {m : Nat} {R R' : Nat → Int → Int → Prop} {cur : List Int} (h : NarR zs m R cur) (hR : ∀ j a b, R j a b ↔ R' j a b) : NarR zs m R' cur :=
  ⟨h.len, fun j hj t => by rw [h.lo j hj t]; simp only [hR], fun j hj t => by rw [h.hi j hj t]; simp only [hR]⟩
theorem NarR.next {zs : List Int} {m c : Nat} {R : Nat → Int → Int → Prop} {cur : List Int} {x y : Int} (h : NarR zs m R cur) (hc : c < m) : NarR zs m (fun j a b => R j a b ∨ (j = c ∧ a = x ∧ b = y)) (wset cur c x y) := by
  have hl := h.len
  refine ⟨by unfold wset; simp [hl], fun j hj t => ?_, fun j hj t => ?_⟩
  · rw [wset_lo (by omega)]
    have h1 := h.lo j hj t
    by_cases hjc : j = c
    · subst hjc
      rw [if_pos rfl, Int.max_le, h1]
      constructor
      · rintro ⟨⟨p1, p2⟩, p3⟩
        refine ⟨p1, fun a b hr => ?_⟩
        rcases hr with hr | ⟨_, rfl, _⟩
        · exact p2 a b hr
        · exact p3
      · rintro ⟨p1, p2⟩
        exact ⟨⟨p1, fun a b hr => p2 a b (.inl hr)⟩, p2 x y (.inr ⟨rfl, rfl, rfl⟩)⟩
    · rw [if_neg hjc, h1]
      constructor
      · rintro ⟨p1, p2⟩
        refine ⟨p1, fun a b hr => ?_⟩
        rcases hr with hr | ⟨h', _, _⟩
        · exact p2 a b hr
        · exact absurd h' hjc
      · rintro ⟨p1, p2⟩
        exact ⟨p1, fun a b hr => p2 a b (.inl hr)⟩
  · rw [wset_hi (by omega)]
    have h1 := h.hi j hj t
    by_cases hjc : j = c
    · subst hjc
      rw [if_pos rfl, Int.le_min, h1]
      constructor
      · rintro ⟨⟨p1, p2⟩, p3⟩
        refine ⟨p1, fun a b hr => ?_⟩
        rcases hr with hr | ⟨_, _, rfl⟩
        · exact p2 a b hr
        · exact p3
      · rintro ⟨p1, p2⟩
        exact ⟨⟨p1, fun a b hr => p2 a b (.inl hr)⟩, p2 x y (.inr ⟨rfl, rfl, rfl⟩)⟩
    · rw [if_neg hjc, h1]
      constructor
      · rintro ⟨p1, p2⟩
        refine ⟨p1, fun a b hr => ?_⟩
        rcases hr with hr | ⟨h', _, _⟩
        · exact p2 a b hr
        · exact absurd h' hjc
      · rintro ⟨p1, p2⟩
        exact ⟨p1, fun a b hr => p2 a b (.inl hr)⟩
theorem NarR.uniq {zs : List Int} {m : Nat} {R : Nat → Int → Int → Prop} {u v : List Int} (h : NarR zs m R u) (h' : NarR zs m R v) : u = v := by
  refine list_gi (by rw [h.len, h'.len]) fun i hi => ?_
  rw [h.len] at hi
  obtain ⟨j, hj⟩ : ∃ j, i = j * 2 ∨ i = j * 2 + 1 := ⟨i / 2, by omega⟩
  rcases hj with rfl | rfl
  · have a := (h.lo j (by omega) (gi v (j * 2))).2 ((h'.lo j (by omega) _).1 (Int.le_refl _))
    have b := (h'.lo j (by omega) (gi u (j * 2))).2 ((h.lo j (by omega) _).1 (Int.le_refl _))
    omega
  · have a := (h.hi j (by omega) (gi v (j * 2 + 1))).2 ((h'.hi j (by omega) _).1 (Int.le_refl _))
    have b := (h'.hi j (by omega) (gi u (j * 2 + 1))).2 ((h.hi j (by omega) _).1 (Int.le_refl _))
    omega
def Vd (m : Nat) (cur : List Int) : Prop := ∀ j, j < m → gi cur (j * 2) ≤ gi cur (j * 2 + 1)
theorem Land.zs_get {L : Land} : ∀ {n j : Nat}, j < n → gi (L.zs n) (j * 2) = L.lo j ∧ gi (L.zs n) (j * 2 + 1) = L.hi j
  | 0, j, h => by omega
  | n + 1, j, h => by
    have hl : (L.zs n).length = n * 2 := Land.zs_len
    rw [Land.zs]
    by_cases hj : j = n
    · subst hj
      exact ⟨gi_r (j := 0) hl, gi_r (j := 1) hl⟩
    · obtain ⟨a, b⟩ := Land.zs_get (L := L) (n := n) (j := j) (by omega)
      rw [gi_l (by omega), gi_l (by omega)]
      exact ⟨a, b⟩
theorem Land.Ok.rng {L : Land} (h : L.Ok) (i : Nat) : -32768 ≤ L.lo i ∧ L.lo i ≤ L.hi i ∧ L.hi i ≤ 33022 := by
  have a : -32768 ≤ L.lo i ∧ L.lo i ≤ 32767 := by unfold Land.lo; split; exact h.low _; omega
  have b : L.lo i ≤ L.hi i ∧ L.hi i ≤ L.lo i + 255 := by
    unfold Land.hi
    split
    · have := h.more (i % L.nm); omega
    · omega
  omega
theorem Land.Ok.vd {L : Land} (h : L.Ok) : Vd L.n L.G.zs := fun j hj => by
  obtain ⟨a, b⟩ := Land.zs_get (L := L) hj
  show gi (L.zs L.n) (j * 2) ≤ gi (L.zs L.n) (j * 2 + 1)
  rw [a, b]
  exact (h.rng j).2.1
theorem Land.Ok.E {L : Land} (h : L.Ok) : L.G.E = 0 := by
  have hw := h.w
  have hh := h.h
  have hn := h.n
  show gridE L.w L.h 100 L.n (L.zs L.n) = 0
  refine gridE_d ?_ (by rw [← hn.1]; exact (wrId (by omega) (by omega)).symm) ?_
  · rw [show (decide (1 ≤ L.w) && decide (L.w ≤ 24)) = true by simp; omega, show (decide (1 ≤ L.h) && decide (L.h ≤ 24)) = true by simp; omega]
    decide
  · rw [List.any_eq_false]
    intro j hj
    rw [List.mem_range] at hj
    obtain ⟨a, b⟩ := Land.zs_get (L := L) hj
    have r := h.rng j
    have : grd (L.zs L.n) j = true := by
      unfold grd validB
      rw [a, b]
      simp
      omega
    rw [this]
    decide
theorem Ord.Ok.snd {o : Ord} (hO : o.Ok) {i j : Nat} {ls : List Int} (h : gi ls (j * 3) = o.c i ∧ gi ls (j * 3 + 1) = o.h i ∧ gi ls (j * 3 + 2) = o.e i) : sndC o.m ls j = 0 := by
  have a := hO.cr i
  have b : -32768 ≤ o.h i ∧ o.h i ≤ 32767 := hO.h _
  have c : 0 ≤ o.e i ∧ o.e i ≤ 255 := hO.e _
  rw [sndC, h.1, h.2.1, h.2.2, if_pos (by simp; omega), if_pos (by simp; omega), if_pos (by simp; omega)]
end Go.Ab.Grid
set_option maxRecDepth 100000
namespace Go.Ab.Grid
open Go Go.Ab
def asg324 : ACode := (.ops [oM 12 23])
def body324 : ACode := (.block 1
 (.ops [
oL 24 11,
oL 25 10,
oM 26 12,
oI 27 25 26 1,
oL 28 27,
oP 29 (.min [.t 24, .t 28]),
oT 11 29 1]))
def leastL (o : List Int) (l : List Int) : Int := l.foldl (fun a d => min a (gi o d.toNat)) 1073741824
section
variable {g : Nat} {rd : Option Nat} {T : List Value} {D : List Nat} {A : Hp} {Q : Ex → St → Prop} {V : Value → Hp → Prop}
structure BrI (A0 : Hp) (X11 : Nat) (T1 : List Value) (o done : List Int) (A : Hp) : Prop where
  e : But X11 A0 A
  n : A0.n + 3 ≤ A.n
  m : A.get A0.n = some .marks
  l : A.get (A0.n + 1) = some (recL T1 [23] asg324 body324)
  r : A.get (A0.n + 2) = some (.cells (ints dirI) false)
  s : A.get X11 = some (.cells [.int .i64 (leastL o done)] false)
theorem BrI.push {A0 A : Hp} {X11 : Nat} {T1 : List Value} {o done : List Int} (h : BrI A0 X11 T1 o done A) (b : ABlk) : BrI A0 X11 T1 o done (A.push b) := by
  obtain ⟨e, n, m, l, r, s⟩ := h
  have k := Ext'.push A b
  exact ⟨e.trans (But.of_ext k), by simp; omega, k.get m, k.get l, k.get r, k.get s⟩
end
end Go.Ab.Grid
set_option maxRecDepth 100000
namespace Go.Ab.Grid
open Go Go.Ab
def PondC (w h : Int) (m : Nat) (zs cs : List Int) (i : Nat) (a b : Int) : Prop :=
  if (i : Int) ∈ cs then a = 0 ∧ b = 0 else ∃ ol oh, SFin (sPar false (some i) w h m zs (seaN cs)) ol ∧ SFin (sPar true (some i) w h m zs (seaN cs)) oh ∧ a = max 0 (leastL ol (nbrs w h i) - gi zs (i * 2 + 1)) ∧ b = max 0 (leastL oh (nbrs w h i) - gi zs (i * 2))
section
variable {g : Nat} {rd : Option Nat} {T : List Value} {D : List Nat} {A : Hp} {Q : Ex → St → Prop} {V : Value → Hp → Prop}
theorem SFin.rng {P : SPar} {o : List Int} (h : SFin P o) (c : Nat) : -1073741824 ≤ gi o c ∧ gi o c ≤ 1073741824 := by
  by_cases hc : c < P.m
  · exact h.le c hc
  · have : gi o c = 0 := by simp [gi, List.getD, show o.length ≤ c by have := h.len; omega]
    omega
end
end Go.Ab.Grid
set_option maxRecDepth 100000
namespace Go.Ab.Grid
open Go Go.Ab
def mz (xs ys : List Int) : Nat → List Int
  | 0 => xs
  | i + 1 => wset (mz xs ys i) i (gi ys (i * 2)) (gi ys (i * 2 + 1))
theorem mz_len {xs ys : List Int} : ∀ {i : Nat}, (mz xs ys i).length = xs.length
  | 0 => rfl
  | i + 1 => by rw [mz]; unfold wset; simp [mz_len (i := i)]
theorem mz_get {xs ys : List Int} {m j : Nat} (hx : xs.length = m * 2) : ∀ {i : Nat}, i ≤ m → j < m →
    gi (mz xs ys i) (j * 2) = (if j < i then max (gi xs (j * 2)) (gi ys (j * 2)) else gi xs (j * 2)) ∧ gi (mz xs ys i) (j * 2 + 1) = if j < i then min (gi xs (j * 2 + 1)) (gi ys (j * 2 + 1)) else gi xs (j * 2 + 1)
  | 0, _, _ => by simp [mz]
  | i + 1, hi, hj => by
    obtain ⟨a, b⟩ := mz_get (ys := ys) (j := j) hx (i := i) (by omega) hj
    obtain ⟨c, d⟩ := mz_get (ys := ys) (j := i) hx (i := i) (by omega) (by omega)
    have hl : (mz xs ys i).length = m * 2 := by rw [mz_len, hx]
    rw [mz, wset_lo (by omega), wset_hi (by omega)]
    by_cases h : j = i
    · subst h
      rw [if_neg (by omega)] at c d
      rw [if_pos rfl, if_pos rfl, c, d, if_pos (Nat.lt_succ_self _), if_pos (Nat.lt_succ_self _)]
      exact ⟨rfl, rfl⟩
    · rw [if_neg h, if_neg h, a, b]
      by_cases h2 : j < i
      · rw [if_pos h2, if_pos h2, if_pos (by omega), if_pos (by omega)]; exact ⟨rfl, rfl⟩
      · rw [if_neg h2, if_neg h2, if_neg (by omega), if_neg (by omega)]; exact ⟨rfl, rfl⟩
def Fit (xs ys : List Int) (j : Nat) : Prop := max (gi xs (j * 2)) (gi ys (j * 2)) ≤ min (gi xs (j * 2 + 1)) (gi ys (j * 2 + 1))
theorem leastL_mono {o o' : List Int} {l : List Int} (h : ∀ d, d ∈ l → gi o d.toNat ≤ gi o' d.toNat) : leastL o l ≤ leastL o' l := by
  unfold leastL
  have key : ∀ (l : List Int), (∀ d, d ∈ l → gi o d.toNat ≤ gi o' d.toNat) → ∀ a a' : Int, a ≤ a' → l.foldl (fun a d => min a (gi o d.toNat)) a ≤ l.foldl (fun a d => min a (gi o' d.toNat)) a' := by
    intro l
    induction l with
    | nil => intro _ a a' h; exact h
    | cons x l ih =>
      intro hl a a' ha
      simp only [List.foldl_cons]
      have := hl x (List.mem_cons_self ..)
      exact ih (fun d hd => hl d (List.mem_cons_of_mem _ hd)) _ _ (by omega)
  exact key l h _ _ (Int.le_refl _)
section
variable {w h s s' : Int} {m : Nat} {zs zs' : List Int} {sea : List Nat}
theorem sp_mono {up up' : Bool} {bar : Option Nat} {o o' : List Int} (hE : gridE w h s m zs = 0) (hE' : gridE w h s' m zs' = 0) (hm : m ≤ 60) (hsea : ∀ c, c ∈ sea → c < m) (hh : ∀ c, c < m → gi zs (c * 2 + upN up) ≤ gi zs' (c * 2 + upN up'))
    (h1 : SFin (sPar up bar w h m zs sea) o) (h2 : SFin (sPar up' bar w h m zs' sea) o') {c : Nat} (hc : c < m) : gi o c ≤ gi o' c :=
  SFin.mono (sPar_line hE hm hsea).ok (sPar_line hE' hm hsea).ok rfl rfl (fun _ _ => rfl) (fun c hc => by
    show (if some c = bar then (1073741824 : Int) else _) ≤ if some c = bar then (1073741824 : Int) else _
    split
    · exact Int.le_refl _
    · exact hh c hc) h1 h2 hc
theorem PondC.mono {cs : List Int} {i : Nat} {a b a' b' : Int} (hE : gridE w h s m zs = 0) (hE' : gridE w h s' m zs' = 0) (hm : m ≤ 60) (hsea : ∀ c, c ∈ seaN cs → c < m)
    (hh : ∀ j, j < m → gi zs (j * 2) ≤ gi zs' (j * 2) ∧ gi zs' (j * 2) ≤ gi zs' (j * 2 + 1) ∧ gi zs' (j * 2 + 1) ≤ gi zs (j * 2 + 1)) (hi : i < m) (h1 : PondC w h m zs cs i a b) (h2 : PondC w h m zs' cs i a' b') : a ≤ a' ∧ b' ≤ b ∧ a' ≤ b' := by
  unfold PondC at h1 h2
  by_cases hin : (i : Int) ∈ cs
  · rw [if_pos hin] at h1 h2; omega
  · rw [if_neg hin] at h1 h2
    obtain ⟨ol, oh, f1, f2, e1, e2⟩ := h1
    obtain ⟨ol', oh', f1', f2', e1', e2'⟩ := h2
    have hnb : ∀ d, d ∈ nbrs w h i → d.toNat < m := fun d hd => (sPar_line (up := false) (bar := none) hE hm hsea).ok.nb i hi d.toNat (List.mem_map_of_mem hd)
    have a1 := leastL_mono fun d hd => sp_mono (up := false) (up' := false) hE hE' hm hsea (fun c hc => (hh c hc).1) f1 f1' (hnb d hd)
    have a2 := leastL_mono fun d hd => sp_mono (up := true) (up' := true) hE' hE hm hsea (fun c hc => (hh c hc).2.2) f2' f2 (hnb d hd)
    have a3 := leastL_mono fun d hd => sp_mono (up := false) (up' := true) hE' hE' hm hsea (fun c hc => (hh c hc).2.1) f1' f2' (hnb d hd)
    have := hh i hi
    omega
end
structure Met (x y : G) (Z : List Int) : Prop where
  len : Z.length = x.m * 2
  at_ : ∀ j, j < x.m → gi Z (j * 2) = max (gi x.zs (j * 2)) (gi y.zs (j * 2)) ∧ gi Z (j * 2 + 1) = min (gi x.zs (j * 2 + 1)) (gi y.zs (j * 2 + 1)) ∧ gi Z (j * 2) ≤ gi Z (j * 2 + 1)
theorem Met.of {x y : G} (lx : x.zs.length = x.m * 2) (h : ∀ j, j < x.m → Fit x.zs y.zs j) : Met x y (mz x.zs y.zs x.m) :=
  ⟨by rw [mz_len, lx], fun j hj => by
    obtain ⟨a, b⟩ := mz_get (ys := y.zs) lx (Nat.le_refl _) hj
    rw [if_pos hj] at a b
    have := h j hj
    unfold Fit at this
    rw [a, b]
    exact ⟨rfl, rfl, this⟩⟩
theorem Met.E {L : Land} {y : G} {Z : List Int} (hO : L.Ok) (h : Met L.G y Z) : gridE L.w L.h 100 L.n Z = 0 := by
  have hw := hO.w
  have hh := hO.h
  have hn := hO.n
  refine gridE_d ?_ (by rw [← hn.1]; exact (wrId (by omega) (by omega)).symm) ?_
  · rw [show (decide (1 ≤ L.w) && decide (L.w ≤ 24)) = true by simp; omega, show (decide (1 ≤ L.h) && decide (L.h ≤ 24)) = true by simp; omega]
    decide
  · rw [List.any_eq_false]
    intro j hj
    rw [List.mem_range] at hj
    obtain ⟨a, b⟩ := Land.zs_get (L := L) hj
    obtain ⟨c, d, e⟩ := h.at_ j hj
    have r := hO.rng j
    rw [show L.G.zs = L.zs L.n from rfl, a] at c
    rw [show L.G.zs = L.zs L.n from rfl, b] at d
    have : grd Z j = true := by
      unfold grd validB
      simp
      omega
    rw [this]
    decide
end Go.Ab.Grid
set_option maxRecDepth 100000
namespace Go.Ab.Grid
open Go Go.Ab
def nrC (w c d : Int) : Bool := decide ((c.tmod w - d.tmod w) * (c.tmod w - d.tmod w) + (c.tdiv w - d.tdiv w) * (c.tdiv w - d.tdiv w) = 1)
def nearI (w c : Int) : Nat → List Int
  | 0 => []
  | d + 1 => nearI w c d ++ (if nrC w c d = true then [(d : Int)] else [])
theorem nearI_mem {w c x : Int} : ∀ {n : Nat}, x ∈ nearI w c n ↔ ∃ d : Nat, d < n ∧ x = (d : Int) ∧ nrC w c d = true
  | 0 => by simp [nearI]
  | n + 1 => by
    rw [nearI, List.mem_append, nearI_mem]
    constructor
    · rintro (⟨d, h1, h2, h3⟩ | h)
      · exact ⟨d, by omega, h2, h3⟩
      · by_cases hn : nrC w c n = true
        · rw [if_pos hn, List.mem_singleton] at h
          exact ⟨n, by omega, h, hn⟩
        · rw [if_neg hn] at h; cases h
    · rintro ⟨d, h1, h2, h3⟩
      by_cases hd : d = n
      · subst hd
        rw [if_pos h3]
        exact .inr (by rw [h2]; exact List.mem_singleton.2 rfl)
      · exact .inl ⟨d, by omega, h2, h3⟩
theorem nearI_le {w c : Int} : ∀ {n : Nat}, (nearI w c n).length ≤ n
  | 0 => by simp [nearI]
  | n + 1 => by
    rw [nearI, List.length_append]
    have := nearI_le (w := w) (c := c) (n := n)
    split <;> simp <;> omega
def nrTab : Bool := (List.range 5).all fun w => (List.range 5).all fun h => (List.range ((w + 1) * (h + 1))).all fun c => (List.range ((w + 1) * (h + 1))).all fun d =>
  nrC ((w + 1 : Nat) : Int) (c : Int) (d : Int) == (nbrs ((w + 1 : Nat) : Int) ((h + 1 : Nat) : Int) (c : Int)).contains (d : Int)
theorem nrTab_ok : nrTab = true := by kernel_rfl
theorem nr_nbrs {w h : Int} {c d : Nat} (hw : 1 ≤ w ∧ w ≤ 5) (hh : 1 ≤ h ∧ h ≤ 5) (hc : (c : Int) < w * h) (hd : (d : Int) < w * h) : nrC w c d = true ↔ (d : Int) ∈ nbrs w h c := by
  obtain ⟨a, rfl⟩ : ∃ a : Nat, w = ((a + 1 : Nat) : Int) := ⟨w.toNat - 1, by omega⟩
  obtain ⟨b, rfl⟩ : ∃ b : Nat, h = ((b + 1 : Nat) : Int) := ⟨h.toNat - 1, by omega⟩
  have hc' : c < (a + 1) * (b + 1) := by rw [← Int.natCast_mul] at hc; omega
  have hd' : d < (a + 1) * (b + 1) := by rw [← Int.natCast_mul] at hd; omega
  have h1 := nrTab_ok
  unfold nrTab at h1
  have h2 := List.all_eq_true.1 h1 a (List.mem_range.2 (by omega))
  have h3 := List.all_eq_true.1 h2 b (List.mem_range.2 (by omega))
  have h4 := List.all_eq_true.1 h3 c (List.mem_range.2 hc')
  have h5 := List.all_eq_true.1 h4 d (List.mem_range.2 hd')
  rw [beq_iff_eq] at h5
  rw [h5, List.contains_iff_mem]
def gQ (l : List Bool) (i : Nat) : Bool := l.getD i false
theorem gQ_rep {m c : Nat} : gQ (List.replicate m false) c = false := by
  unfold gQ
  rw [List.getD_eq_getElem?_getD, List.getElem?_replicate]
  split <;> rfl
structure WetI (P : SPar) (lv : Int) (out : List Bool) (q : List Nat) (cur : Option (Nat × List Nat)) (ss : List Nat) : Prop where
  len : out.length = P.m
  snd : ∀ c, c < P.m → gQ out c = true → ∃ v, v < lv ∧ P.Der c v
  qin : ∀ c, c ∈ q → c < P.m ∧ gQ out c = true
  sea : ∀ c, c ∈ ss → P.ht c < lv → gQ out c = true
  cl : ∀ a, a < P.m → gQ out a = true → a ∈ q ∨ (∃ dn, cur = some (a, dn) ∧ ∀ d, d ∈ dn → P.ht d < lv → gQ out d = true) ∨ (∀ d, d ∈ P.nb a → P.ht d < lv → gQ out d = true)
theorem WetI.start {P : SPar} {lv : Int} : WetI P lv (List.replicate P.m false) [] none [] :=
  ⟨by simp, fun c _ h => absurd h (by rw [gQ_rep]; decide), fun c h => absurd h (by simp), fun c h => absurd h (by simp), fun a _ h => absurd h (by rw [gQ_rep]; decide)⟩
theorem WetI.take {P : SPar} {lv : Int} {out : List Bool} {q ss : List Nat} {c : Nat} (h : WetI P lv out (c :: q) none ss) : WetI P lv out q (some (c, [])) ss :=
  ⟨h.len, h.snd, fun d hd => h.qin d (List.mem_cons_of_mem _ hd), h.sea, fun a ha hg => by
    rcases h.cl a ha hg with h1 | ⟨dn, h1, _⟩ | h1
    · rcases List.mem_cons.1 h1 with h2 | h2
      · subst h2; exact .inr (.inl ⟨[], rfl, fun d hd => by cases hd⟩)
      · exact .inl h2
    · cases h1
    · exact .inr (.inr h1)⟩
theorem WetI.shut {P : SPar} {lv : Int} {out : List Bool} {q ss : List Nat} {c : Nat} {dn : List Nat} (h : WetI P lv out q (some (c, dn)) ss) (hdn : ∀ d, d ∈ P.nb c → d ∈ dn) : WetI P lv out q none ss :=
  ⟨h.len, h.snd, h.qin, h.sea, fun a ha hg => by
    rcases h.cl a ha hg with h1 | ⟨dn', h1, h2⟩ | h1
    · exact .inl h1
    · cases h1; exact .inr (.inr fun d hd hh => h2 d (hdn d hd) hh)
    · exact .inr (.inr h1)⟩
theorem WetI.fin {P : SPar} {lv : Int} {out : List Bool} {o : List Int} (hP : SParOk P) (h : WetI P lv out [] none P.sea) (ho : SFin P o) (hlv : lv ≤ 1073741824) {c : Nat} (hc : c < P.m) : gQ out c = decide (gi o c < lv) := by
  have up : ∀ {a : Nat} {v : Int}, P.Der a v → v < lv → gQ out a = true := by
    intro a v hd
    induction hd with
    | base hs => intro hv; exact h.sea _ hs (by omega)
    | step h1 h2 ih =>
      intro hv
      have ha := h1.lt hP
      rcases h.cl _ ha (ih (by omega)) with h3 | ⟨_, h3, _⟩ | h3
      · cases h3
      · cases h3
      · exact h3 _ h2 (by omega)
  by_cases hg : gQ out c = true
  · obtain ⟨v, hv, hd⟩ := h.snd c hc hg
    have := ho.least hP hd
    rw [hg]
    simp
    omega
  · have : ¬ gi o c < lv := fun hlt => by
      rcases ho.out c hc with h1 | h1
      · rw [h1] at hlt; unfold noneV at hlt; omega
      · exact hg (up h1 hlt)
    simp [hg, this]
end Go.Ab.Grid
set_option maxRecDepth 100000
namespace Go.Ab.Grid
open Go Go.Ab
section
variable {w h s : Int} {m : Nat} {zs : List Int}
end
end Go.Ab.Grid
set_option maxRecDepth 100000
namespace Go.Ab.Grid
open Go Go.Ab
def terH (zs : List Int) (nw : Nat) (wh : List Int) (i : Nat) : Int := gi zs (i * 2) + if 0 < nw then (gi wh (i % nw)).tmod (gi zs (i * 2 + 1) - gi zs (i * 2) + 1) else 0
def terZ (zs : List Int) (nw : Nat) (wh : List Int) : Nat → List Int
  | 0 => []
  | i + 1 => terZ zs nw wh i ++ [terH zs nw wh i, terH zs nw wh i]
theorem terZ_len {zs wh : List Int} {nw : Nat} : ∀ {i : Nat}, (terZ zs nw wh i).length = i * 2
  | 0 => rfl
  | i + 1 => by rw [terZ, List.length_append, terZ_len]; simp; omega
theorem terZ_get {zs wh : List Int} {nw : Nat} : ∀ {n j : Nat}, j < n → gi (terZ zs nw wh n) (j * 2) = terH zs nw wh j ∧ gi (terZ zs nw wh n) (j * 2 + 1) = terH zs nw wh j
  | 0, j, h => by omega
  | n + 1, j, h => by
    have hl : (terZ zs nw wh n).length = n * 2 := terZ_len
    rw [terZ]
    by_cases hj : j = n
    · subst hj
      exact ⟨gi_r (j := 0) hl, gi_r (j := 1) hl⟩
    · obtain ⟨a, b⟩ := terZ_get (zs := zs) (wh := wh) (nw := nw) (n := n) (j := j) (by omega)
      rw [gi_l (by omega), gi_l (by omega)]
      exact ⟨a, b⟩
theorem terH_in {zs wh : List Int} {nw i : Nat} (hw : ∀ i, 0 ≤ gi wh i) (hv : gi zs (i * 2) ≤ gi zs (i * 2 + 1)) : gi zs (i * 2) ≤ terH zs nw wh i ∧ terH zs nw wh i ≤ gi zs (i * 2 + 1) := by
  unfold terH
  split
  · have a := Int.tmod_nonneg (gi zs (i * 2 + 1) - gi zs (i * 2) + 1) (hw (i % nw))
    have b := Int.tmod_lt_of_pos (gi wh (i % nw)) (show 0 < gi zs (i * 2 + 1) - gi zs (i * 2) + 1 by omega)
    omega
  · omega
section
variable {g : Nat} {rd : Option Nat} {T : List Value} {D : List Nat} {A : Hp} {Q : Ex → St → Prop} {V : Value → Hp → Prop}
theorem loop312 {A0 : Hp} {x : G} {sl sw : Value} {nw X5 N : Nat} {wh : List Int} (hm : x.m < 1000) (hv : ∀ j, j < x.m → -1200000 ≤ gi x.zs (j * 2) ∧ gi x.zs (j * 2) ≤ gi x.zs (j * 2 + 1) ∧ gi x.zs (j * 2 + 1) ≤ 1200000) (hsl : RdS A0 2 x.m (ints x.zs) sl) (hsw : RdS A0 1 nw (kints .u8 wh) sw) (hwr : ∀ i, 0 ≤ gi wh i ∧ gi wh i ≤ 255)
    (hN : A0.n = N) (hX5 : X5 < N) (hg5 : g ≤ X5) (hg : g ≤ N) (hsl5 : ∀ z, blkOf sl = some z → z ≠ X5) (hsw5 : ∀ z, blkOf sw = some z → z ≠ X5)
    (hQ : ∀ T' A' sv, But X5 A0 A' → A'.get X5 = some (.cells [.int .i64 x.w, .int .i64 x.h, .int .i64 x.s, sv] false) → AccS N A' 2 (ints (terZ x.zs nw wh x.m)) sv → tget T' 4 = tget T 4 → tget T' 5 = .pointer (some ⟨X5, 0, none⟩) → Q (.exit 0) ⟨T', D, A'⟩) :
    ∀ (k i : Nat) {T1 : List Value} {A : Hp} (sv : Value), i + k = x.m → But X5 A0 A → A.get X5 = some (.cells [.int .i64 x.w, .int .i64 x.h, .int .i64 x.s, sv] false) → AccS N A 2 (ints (terZ x.zs nw wh i)) sv → tget T1 4 = tget T 4 →
      tget T1 1 = sw → tget T1 5 = .pointer (some ⟨X5, 0, none⟩) → tget T1 12 = sl → tget T1 13 = .int .i64 x.m → tget T1 14 = .int .i64 i → W AP KL g rd (.loop body312) ⟨T1, D, A⟩ Q := by
  intro k
  have hzl : x.zs.length = x.m * 2 := by have := hsl.1; simpa using this
  have hwl : wh.length = nw := by have := hsw.1; simpa using this
  induction k with
  | zero =>
    intro i T1 A sv hi hb h3 hacc k4 t1 t5 t12 t13 t14
    have : i = x.m := by omega
    subst this
    rw [W_loop]
    simp (disch := as_aux_lemma => first | omega | simp only [hDs] <;> omega | simp [isCell]) [hRs, takeMarks, resA, resAll, resOne, Value.cells, body312, t13, t14]
    exact hQ _ _ sv hb h3 hacc (by simp [k4]) (by simp [t5])
  | succ k ih =>
    intro i T1 A sv hi hb h3 hacc k4 t1 t5 t12 t13 t14
    have him : i < x.m := by omega
    have e5 : wr .i64 ((i : Int) + 1) = ((i + 1 : Nat) : Int) := by rw [wrId (by omega) (by omega)]; simp
    have hAn := hb.1
    obtain ⟨v1, v2, v3⟩ := hv i him
    obtain ⟨gb, gc, gr, hsq, hgb⟩ := (hsl.keepB (A' := A) fun z hz => hb.2 z (hsl.blk_lt hz) (hsl5 z hz)).at him
    have hgbn := Hp.lt_of_get hgb
    have hswA := hsw.keepB (A' := A) fun z hz => hb.2 z (hsw.blk_lt hz) (hsw5 z hz)
    have lw := hswA.len
    obtain ⟨H, hH⟩ : ∃ H, H = terH x.zs nw wh i := ⟨_, rfl⟩
    have hHr := terH_in (zs := x.zs) (wh := wh) (nw := nw) (i := i) (fun i => (hwr i).1) v2
    rw [← hH] at hHr
    obtain ⟨lo, hlo⟩ : ∃ lo, lo = gi x.zs (i * 2) := ⟨_, rfl⟩
    obtain ⟨hi', hhi⟩ : ∃ hi', hi' = gi x.zs (i * 2 + 1) := ⟨_, rfl⟩
    rw [← hlo] at v1 v2 hHr
    rw [← hhi] at v2 v3 hHr
    have hHe : H = lo + if 0 < nw then (gi wh (i % nw)).tmod (hi' - lo + 1) else 0 := by rw [hH, terH, hlo, hhi]
    have t12' := t12.trans hsq
    obtain ⟨sv', A1, a1, a2, a3, a4⟩ := append_acc (g := g) (bytes := 16) (y := A.n + 1) (A := (A.push (.cells [.int .i64 lo, .int .i64 hi'] false)).push (.cells [.int .i64 H, .int .i64 H] false)) (new := [.int .i64 H, .int .i64 H]) (ro := false) (n := i)
      (hacc.mono ((Ext'.push A _).trans (Ext'.push _ _)).2) (by omega) (by simp; omega) (get_push_eq (by simp)) rfl (by decide) rfl (by simp [terZ_len]) (by unfold room; omega)
    rw [show ints (terZ x.zs nw wh i) ++ [.int .i64 H, .int .i64 H] = ints (terZ x.zs nw wh (i + 1)) by rw [terZ, ints_append, hH]; rfl] at a2
    obtain ⟨ad, nn, cc, rfl⟩ : ∃ ad nn cc, sv' = .slice ad nn cc := by rcases a2 with ⟨rfl, _⟩ | ⟨_, _, rfl, _⟩ <;> exact ⟨_, _, _, rfl⟩
    have c3 : A1.get X5 = some (.cells [.int .i64 x.w, .int .i64 x.h, .int .i64 x.s, sv] false) := by rw [a3 _ (by omega), get_push_old (by simp; omega), get_push_old (by omega)]; exact h3
    have hfin : ∀ T2, tget T2 4 = tget T 4 → tget T2 1 = sw → tget T2 5 = .pointer (some ⟨X5, 0, none⟩) → tget T2 12 = sl → tget T2 13 = .int .i64 x.m → tget T2 14 = .int .i64 ((i + 1 : Nat) : Int) →
        W AP KL g rd (.loop body312) ⟨T2, D, A1.set X5 (some (.cells [.int .i64 x.w, .int .i64 x.h, .int .i64 x.s, .slice ad nn cc] false))⟩ Q := fun T2 j4 j1 j5 j12 j13 j14 => by
      have o1 : ∀ z, z < A1.n → z ≠ X5 → (A1.set X5 (some (.cells [.int .i64 x.w, .int .i64 x.h, .int .i64 x.s, .slice ad nn cc] false))).get z = A1.get z := fun z hz hzn => get_set_ne (Hp.lt_of_get c3) hzn
      refine ih (i + 1) (.slice ad nn cc) (by omega) ⟨by simp [a4]; omega, fun z hz hzn => ?_⟩ (get_set_same c3) (a2.keepB fun b hbb => o1 b (a2.blk_ge hbb).2 (by have := (a2.blk_ge hbb).1; omega)) j4 j1 j5 j12 j13 j14
      rw [o1 z (by rw [a4]; simp; omega) hzn, a3 z (by omega), get_push_old (by simp; omega), get_push_old (by omega), hb.2 z hz hzn]
    have z1 : zeros 1 [Value.int .i64 0, .int .i64 0] = [.int .i64 0, .int .i64 0] := rfl
    rw [W_loop]
    by_cases hw : 0 < nw
    · have em : ((i : Int).tmod nw) = ((i % nw : Nat) : Int) := by rw [Int.tmod_eq_emod_of_nonneg (by omega)]; simp
      have hml : i % nw < nw := Nat.mod_lt _ hw
      have en : ((i : Int) % (nw : Int)).toNat = i % nw := by rw [← Int.natCast_emod]; exact Int.toNat_natCast _
      obtain ⟨xb, xc, xr, hsw', hxb⟩ := hswA.at hw
      have hxbn := Hp.lt_of_get hxb
      have t1' := t1.trans hsw'
      have lw' : lenV (.slice (some ⟨xb, 0, some 1⟩) nw xc) = some (.int .i64 nw) := rfl
      have rw1 := hwr (i % nw)
      have e6 : wr .i64 (gi wh (i % nw)) = gi wh (i % nw) := wrId (by omega) (by omega)
      have e7 : wr .i64 (hi' - lo) = hi' - lo := wrId (by omega) (by omega)
      have e8 : wr .i64 (hi' - lo + 1) = hi' - lo + 1 := wrId (by omega) (by omega)
      rw [if_pos hw] at hHe
      have e9 : wr .i64 (lo + (gi wh (i % nw)).tmod (hi' - lo + 1)) = H := by rw [← hHe]; exact wrId (by omega) (by omega)
      simp (disch := as_aux_lemma => first | omega | simp only [hDs] <;> omega | simp [isCell]) [hRs, takeMarks, resA, resAll, resOne, Value.cells, body312, t1', t5, t12', t13, t14, show ((i : Int) < x.m) by omega, him, fillA, storeB_cells, setRange_all, set_push_eq, lw', h3, hgb, ints_two (show i * 2 + 2 ≤ x.zs.length by omega), ← hlo, ← hhi, idxSA_ok, setRange, slitA, z1, a1, c3, toIntA, e5, hw, binA_rem (show ((nw : Nat) : Int) ≠ 0 by omega), em, en, hml, hxb, kints_get (k := .u8) (show i % nw < wh.length by omega), e6, e7, e8, binA_rem (show hi' - lo + 1 ≠ 0 by omega), e9]
      exact hfin _ (by simp [k4]) (by simp [t1]) (by simp [t5]) (by simp [t12]) (by simp [t13]) (by simp)
    · rw [if_neg hw, Int.add_zero] at hHe
      subst hHe
      simp (disch := as_aux_lemma => first | omega | simp only [hDs] <;> omega | simp [isCell]) [hRs, takeMarks, resA, resAll, resOne, Value.cells, body312, t1, t5, t12', t13, t14, show ((i : Int) < x.m) by omega, him, fillA, storeB_cells, setRange_all, set_push_eq, lw, h3, hgb, ints_two (show i * 2 + 2 ≤ x.zs.length by omega), ← hlo, ← hhi, idxSA_ok, setRange, slitA, z1, a1, c3, toIntA, e5, show nw = 0 by omega]
      exact hfin _ (by simp [k4]) (by simp [t1]) (by simp [t5]) (by simp [t12]) (by simp [t13]) (by simp)
theorem w312 {x : G} {vx sw : Value} {nw : Nat} {wh : List Int} (hx : GAt A x vx) (hm : x.m < 1000) (hv : ∀ j, j < x.m → -1200000 ≤ gi x.zs (j * 2) ∧ gi x.zs (j * 2) ≤ gi x.zs (j * 2 + 1) ∧ gi x.zs (j * 2 + 1) ≤ 1200000) (hsw : RdS A 1 nw (kints .u8 wh) sw) (hwr : ∀ i, 0 ≤ gi wh i ∧ gi wh i ≤ 255) (hg : g ≤ A.n)
    (hV : ∀ A' v, Ext' A A' → GAt A' { x with zs := terZ x.zs nw wh x.m } v → V v A') : WF AP KL g 312 [vx, sw] A V := by
  obtain ⟨sl, rfl, rx⟩ := hx
  obtain ⟨pl, cl, rfl⟩ := rx.isSlice'
  rw [WF_body (show KL 312 = none from rfl) (show AP 312 = some F312 from rfl)]
  obtain ⟨B, hB⟩ : ∃ B, B = ((A.push (.cells [.int .i64 x.w, .int .i64 x.h, .int .i64 x.s, .slice pl x.m cl] false)).push zeroG).push (.cells [.int .i64 x.w, .int .i64 x.h, .int .i64 x.s, .slice none 0 0] false) := ⟨_, rfl⟩
  have eB : Ext' A B := by rw [hB]; exact ((Ext'.push _ _).trans (Ext'.push _ _)).trans (Ext'.push _ _)
  have nB : B.n = A.n + 3 := by rw [hB]; rfl
  have b0 : B.get A.n = some (.cells [.int .i64 x.w, .int .i64 x.h, .int .i64 x.s, .slice pl x.m cl] false) := by rw [hB, get_push_old (by simp; omega), get_push_old (by simp), get_push_eq (by omega)]
  have b1 : B.get (A.n + 1) = some zeroG := by rw [hB, get_push_old (by simp), get_push_eq (by simp)]
  have b2 : B.get (A.n + 2) = some (.cells [.int .i64 x.w, .int .i64 x.h, .int .i64 x.s, .slice none 0 0] false) := by rw [hB, get_push_eq (by simp)]
  unfold zeroG at hB
  simp (disch := as_aux_lemma => first | omega | simp only [hDs] <;> omega | simp [isCell]) [hRs, takeMarks, resA, resAll, resOne, Value.cells, F312, gridV, fillA, setRange, storeB_cells, set_push_eq, setRange_all, ← hB, b0]
  refine loop312 (A0 := B) (x := x) (X5 := A.n + 2) (N := B.n) (nw := nw) (wh := wh) hm hv (eB.rdS rx) (eB.rdS hsw) hwr rfl (by omega) (by omega) (by omega) (fun z hz => by have := rx.blk_lt hz; omega) (fun z hz => by have := hsw.blk_lt hz; omega)
    (fun T' A' sv hb h3 hacc k4 t5 => ?_) x.m 0 (.slice none 0 0) (by omega) (But.of_ext ⟨Nat.le_refl _, fun _ _ => rfl⟩) b2 AccS.nil rfl ?_ ?_ ?_ ?_ ?_
  · simp at k4
    have hn := hb.1
    have c1 : A'.get (A.n + 1) = some zeroG := by rw [hb.2 _ (by omega) (by omega)]; exact b1
    obtain ⟨ad, nn, cc, rfl⟩ : ∃ ad nn cc, sv = .slice ad nn cc := by rcases hacc with ⟨rfl, _⟩ | ⟨_, _, rfl, _⟩ <;> exact ⟨_, _, _, rfl⟩
    simp (disch := as_aux_lemma => first | omega | simp only [hDs] <;> omega | simp [isCell]) [hRs, takeMarks, resA, resAll, resOne, Value.cells, k4, t5, h3, c1, storeB_cells, setRange_all, get_set_same c1]
    have o1 : ∀ (b : Option ABlk) z, z ≠ A.n + 1 → (A'.set (A.n + 1) b).get z = A'.get z := fun b z hz => get_set_ne (by omega) hz
    refine hV _ _ ⟨by simp; omega, fun z hz => by rw [o1 _ z (by omega), hb.2 z (by omega) (by omega), eB.2 z hz]⟩ ⟨_, rfl, ?_⟩
    have hacc' := hacc.keepB (A' := A'.set (A.n + 1) (some (.cells [.int .i64 x.w, .int .i64 x.h, .int .i64 x.s, .slice ad nn cc] false))) fun b hbb => o1 _ b (by have := (hacc.blk_ge hbb).1; omega)
    obtain ⟨q, hq⟩ := hacc'.rdS
    have : q = x.m := by have := hq.1; simp [terZ_len] at this; omega
    subst this
    exact hq
  all_goals simp
end
end Go.Ab.Grid
set_option maxRecDepth 100000
namespace Go.Ab.Grid
open Go Go.Ab
theorem SFin.congr {P P' : SPar} {o : List Int} (hP : SParOk P) (hm : P.m = P'.m) (hs : P.sea = P'.sea) (hn : ∀ c, c < P.m → P.nb c = P'.nb c) (hh : ∀ c, c < P.m → P.ht c = P'.ht c) (h : SFin P o) : SFin P' o := by
  have key : ∀ {c : Nat} {v : Int}, P.Der c v → P'.Der c v := by
    intro c v hd
    induction hd with
    | @base a ha =>
      rw [hh a (hP.sea _ ha)]
      exact .base (hs ▸ ha)
    | @step a b v h1 h2 ih =>
      have ha := h1.lt hP
      rw [hh b (hP.nb _ ha _ h2)]
      exact .step ih (by rw [← hn a ha]; exact h2)
  refine ⟨by rw [h.len, hm], fun c hc => h.le c (by omega), fun c hc => ?_, fun c hc => ?_, fun a ha hne d hd => ?_⟩
  · rcases h.out c (by omega) with h1 | h1
    · exact .inl h1
    · exact .inr (key h1)
  · have hc' : c ∈ P.sea := by rw [hs]; exact hc
    rw [← hh c (hP.sea _ hc')]
    exact h.sea c hc'
  · have hd' : d ∈ P.nb a := by rw [hn a (by omega)]; exact hd
    rw [← hh d (hP.nb _ (by omega) _ hd')]
    exact h.cl a (by omega) hne d hd'
def ptZ (f : Nat → Int) : Nat → List Int
  | 0 => []
  | i + 1 => ptZ f i ++ [f i, f i]
theorem Land.E_of {L : Land} {Z : List Int} (hO : L.Ok) (h : ∀ j, j < L.n → -1200000 ≤ gi Z (j * 2) ∧ gi Z (j * 2) ≤ gi Z (j * 2 + 1) ∧ gi Z (j * 2 + 1) ≤ 1200000) : gridE L.w L.h 100 L.n Z = 0 := by
  have hw := hO.w
  have hh := hO.h
  have hn := hO.n
  refine gridE_d ?_ (by rw [← hn.1]; exact (wrId (by omega) (by omega)).symm) ?_
  · rw [show (decide (1 ≤ L.w) && decide (L.w ≤ 24)) = true by simp; omega, show (decide (1 ≤ L.h) && decide (L.h ≤ 24)) = true by simp; omega]
    decide
  · rw [List.any_eq_false]
    intro j hj
    rw [List.mem_range] at hj
    have := h j hj
    have : grd Z j = true := by
      unfold grd validB
      simp
      omega
    rw [this]
    decide
section
variable {w h s s' : Int} {m n : Nat} {zs Z : List Int}
theorem sill_pt {bar : Option Nat} {sea : List Nat} {o o' : List Int} (hE : gridE w h s m Z = 0) (hm : m ≤ 60) (hsea : ∀ c, c ∈ sea → c < m) (hp : ∀ j, j < m → gi Z (j * 2) = gi Z (j * 2 + 1)) (h1 : SFin (sPar false bar w h m Z sea) o) (h2 : SFin (sPar true bar w h m Z sea) o') {c : Nat} (hc : c < m) : gi o c = gi o' c := by
  have a := sp_mono (up := false) (up' := true) hE hE hm hsea (fun c hc => by have := hp c hc; simp [upN]; omega) h1 h2 hc
  have b := sp_mono (up := true) (up' := false) hE hE hm hsea (fun c hc => by have := hp c hc; simp [upN]; omega) h2 h1 hc
  omega
theorem PondC.pt {cs : List Int} {i : Nat} {a b : Int} (hE : gridE w h s m Z = 0) (hm : m ≤ 60) (hsea : ∀ c, c ∈ seaN cs → c < m) (hp : ∀ j, j < m → gi Z (j * 2) = gi Z (j * 2 + 1)) (hi : i < m) (h1 : PondC w h m Z cs i a b) : a = b := by
  unfold PondC at h1
  by_cases hin : (i : Int) ∈ cs
  · rw [if_pos hin] at h1; omega
  · rw [if_neg hin] at h1
    obtain ⟨ol, oh, f1, f2, e1, e2⟩ := h1
    have hnb : ∀ d, d ∈ nbrs w h i → d.toNat < m := fun d hd => (sPar_line (up := false) (bar := none) hE hm hsea).ok.nb i hi d.toNat (List.mem_map_of_mem hd)
    have a1 := leastL_mono (o := ol) (o' := oh) (l := nbrs w h i) fun d hd => by have := sill_pt hE hm hsea hp f1 f2 (hnb d hd); omega
    have a2 := leastL_mono (o := oh) (o' := ol) (l := nbrs w h i) fun d hd => by have := sill_pt hE hm hsea hp f1 f2 (hnb d hd); omega
    have := hp i hi
    omega
end
end Go.Ab.Grid
set_option maxRecDepth 100000
namespace Go.Ab.Grid
open Go Go.Ab
abbrev boxG (w h s : Int) (v : Value) : ABlk := .cells [.int .i64 w, .int .i64 h, .int .i64 s, v] false
structure TwoR (g M Xa Xb : Nat) (A : Hp) (la lb : List Int) (sa sb : Value) (w h s va vb : Int) (sa' : Value) (A1 : Hp) (sb' : Value) (A2 A3 : Hp) : Prop where
  e1 : appendA g (A.push (.cells [.int .i64 va, .int .i64 va] false)) 2 16 sa (.slice (some ⟨A.n, 0, some 2⟩) 1 1) = some (sa', A1)
  e2 : appendA g (A1.push (.cells [.int .i64 vb, .int .i64 vb] false)) 2 16 sb (.slice (some ⟨A1.n, 0, some 2⟩) 1 1) = some (sb', A2)
  k1 : ∀ z, z < A.n → blkOf sa ≠ some z → A1.get z = A.get z
  xa : A2.get Xa = some (boxG w h s sa)
  xb : (A2.set Xa (some (boxG w h s sa'))).get Xb = some (boxG w h s sb)
  h3 : A3 = (A2.set Xa (some (boxG w h s sa'))).set Xb (some (boxG w h s sb'))
  n3 : A.n ≤ A3.n
  ga : A3.get Xa = some (boxG w h s sa')
  gb : A3.get Xb = some (boxG w h s sb')
  aa : AccS M A3 2 (ints (la ++ [va, va])) sa'
  ab : AccS M A3 2 (ints (lb ++ [vb, vb])) sb'
  old : ∀ z, z < A.n → z ≠ Xa → z ≠ Xb → blkOf sa ≠ some z → blkOf sb ≠ some z → A3.get z = A.get z
  ba : ∀ z, blkOf sa' = some z → A.n ≤ z
  bb : ∀ z, blkOf sb' = some z → A.n ≤ z
  d : ∀ z, blkOf sa' = some z → blkOf sb' ≠ some z
structure D4 (A0 : Hp) (N : Nat) (w h s : Int) (f1 f2 f3 f4 : Nat → Int) (i : Nat) (s1 s2 s3 s4 : Value) (A : Hp) : Prop where
  b : ∀ z, z < N → A.get z = A0.get z
  n : N + 4 ≤ A.n
  x1 : A.get N = some (boxG w h s s1)
  x2 : A.get (N + 1) = some (boxG w h s s2)
  x3 : A.get (N + 2) = some (boxG w h s s3)
  x4 : A.get (N + 3) = some (boxG w h s s4)
  a1 : AccS (N + 4) A 2 (ints (ptZ f1 i)) s1
  a2 : AccS (N + 4) A 2 (ints (ptZ f2 i)) s2
  a3 : AccS (N + 4) A 2 (ints (ptZ f3 i)) s3
  a4 : AccS (N + 4) A 2 (ints (ptZ f4 i)) s4
  d12 : ∀ z, blkOf s1 = some z → blkOf s2 ≠ some z
  d13 : ∀ z, blkOf s1 = some z → blkOf s3 ≠ some z
  d14 : ∀ z, blkOf s1 = some z → blkOf s4 ≠ some z
  d23 : ∀ z, blkOf s2 = some z → blkOf s3 ≠ some z
  d24 : ∀ z, blkOf s2 = some z → blkOf s4 ≠ some z
  d43 : ∀ z, blkOf s4 = some z → blkOf s3 ≠ some z
section
variable {g : Nat} {rd : Option Nat} {T : List Value} {D : List Nat} {A : Hp} {Q : Ex → St → Prop} {V : Value → Hp → Prop}
theorem D4.next {A0 A C0 A3 A4 A6 : Hp} {g N i Ya Yb : Nat} {w h s v1 v2 v3 v4 : Int} {f1 f2 f3 f4 : Nat → Int} {s1 s2 s3 s4 s1' s2' s3' s4' : Value} {B1 B2 B3 B4 : Hp} (h0 : D4 A0 N w h s f1 f2 f3 f4 i s1 s2 s3 s4 A) (e0 : Ext' A C0) (hYa : A.n ≤ Ya ∧ Ya < C0.n) (hYb : A.n ≤ Yb ∧ Yb < C0.n)
    (t1 : TwoR g (N + 4) N (N + 1) C0 (ptZ f1 i) (ptZ f2 i) s1 s2 w h s v1 v2 s1' B1 s2' B2 A3) (hm : ∀ z, z ≠ Ya → z ≠ Yb → A4.get z = A3.get z) (hn : A4.n = A3.n)
    (t2 : TwoR g (N + 4) (N + 3) (N + 2) A4 (ptZ f4 i) (ptZ f3 i) s4 s3 w h s v4 v3 s4' B3 s3' B4 A6) (q1 : v1 = f1 i) (q2 : v2 = f2 i) (q3 : v3 = f3 i) (q4 : v4 = f4 i) : D4 A0 N w h s f1 f2 f3 f4 (i + 1) s1' s2' s3' s4' A6 := by
  have n0 := h0.n
  have nC := e0.1
  have n3 := t1.n3
  have n6 := t2.n3
  have lo : ∀ {l : List Int} {sv : Value} {z : Nat}, AccS (N + 4) A 2 (ints l) sv → blkOf sv = some z → N + 4 ≤ z ∧ z < A.n := fun ha hz => ha.blk_ge hz
  have a3 : ∀ z, z < C0.n → z ≠ N → z ≠ N + 1 → blkOf s1 ≠ some z → blkOf s2 ≠ some z → z ≠ Ya → z ≠ Yb → A4.get z = C0.get z := fun z h1 h2 h3 h4 h5 h6 h7 => by rw [hm z h6 h7, t1.old z h1 h2 h3 h4 h5]
  have c1 : ∀ z, blkOf s1' = some z → A6.get z = A3.get z := fun z hz => by
    have hb := t1.ba z hz
    have hl := (t1.aa.blk_ge hz).2
    rw [t2.old z (by omega) (by omega) (by omega) (fun h => by have := (lo h0.a4 h).2; omega) (fun h => by have := (lo h0.a3 h).2; omega), hm z (by omega) (by omega)]
  have c2 : ∀ z, blkOf s2' = some z → A6.get z = A3.get z := fun z hz => by
    have hb := t1.bb z hz
    have hl := (t1.ab.blk_ge hz).2
    rw [t2.old z (by omega) (by omega) (by omega) (fun h => by have := (lo h0.a4 h).2; omega) (fun h => by have := (lo h0.a3 h).2; omega), hm z (by omega) (by omega)]
  subst q1; subst q2; subst q3; subst q4
  refine ⟨fun z hz => ?_, by omega, ?_, ?_, t2.gb, t2.ga, t1.aa.keepB c1, t1.ab.keepB c2, t2.ab, t2.aa, t1.d, fun z hz h => ?_, fun z hz h => ?_, fun z hz h => ?_, fun z hz h => ?_, t2.d⟩
  · have k : ∀ {l : List Int} {sv : Value}, AccS (N + 4) A 2 (ints l) sv → blkOf sv ≠ some z := fun ha h => by have := (lo ha h).1; omega
    rw [t2.old z (by omega) (by omega) (by omega) (k h0.a4) (k h0.a3), a3 z (by omega) (by omega) (by omega) (k h0.a1) (k h0.a2) (by omega) (by omega), e0.2 z (by omega), h0.b z hz]
  · rw [t2.old N (by omega) (by omega) (by omega) (fun h => by have := (lo h0.a4 h).1; omega) (fun h => by have := (lo h0.a3 h).1; omega), hm N (by omega) (by omega), t1.ga]
  · rw [t2.old (N + 1) (by omega) (by omega) (by omega) (fun h => by have := (lo h0.a4 h).1; omega) (fun h => by have := (lo h0.a3 h).1; omega), hm (N + 1) (by omega) (by omega), t1.gb]
  · have := t2.bb z h; have := (t1.aa.blk_ge hz).2; omega
  · have := t2.ba z h; have := (t1.aa.blk_ge hz).2; omega
  · have := t2.bb z h; have := (t1.ab.blk_ge hz).2; omega
  · have := t2.ba z h; have := (t1.ab.blk_ge hz).2; omega
end
end Go.Ab.Grid
set_option maxRecDepth 100000
namespace Go.Ab.Grid
open Go Go.Ab
def endT (up : Bool) : Value := .func (.func (if up then 274 else 332)) ⟨[]⟩ ⟨[]⟩
def setT (up : Bool) (Xo : Nat) : Value := .func (.func (if up then 331 else 333)) ⟨[]⟩ ⟨[.pointer (some ⟨Xo, 0, none⟩)]⟩
def tPar (up : Bool) (w h : Int) (m : Nat) (zs : List Int) (st : Int) : TPar := ⟨m, fun c => if up then gi zs (c * 2 + 1) else -(gi zs (c * 2)), fun c => (nbrs w h c).map Int.toNat, st⟩
theorem tPar_ok {up : Bool} {w h s st : Int} {m : Nat} {zs : List Int} (hE : gridE w h s m zs = 0) (hst : 0 ≤ st ∧ st ≤ 2400000) : TParOk (tPar up w h m zs st) := by
  obtain ⟨hw, hh, hm, hv⟩ := gridE_parts hE
  refine ⟨fun c hc d hd => ?_, fun c hc => ?_, hst⟩
  · obtain ⟨x, hx, rfl⟩ := List.mem_map.1 hd
    have := nbrs_range hw.1 hx
    show x.toNat < m
    omega
  · have := hv c hc
    show -1200000 ≤ (if up = true then gi zs (c * 2 + 1) else -(gi zs (c * 2))) ∧ (if up = true then gi zs (c * 2 + 1) else -(gi zs (c * 2))) ≤ 1200000
    cases up <;> simp <;> omega
structure Upd (up : Bool) (m i : Nat) (o cur0 cur : List Int) : Prop where
  len : cur.length = m * 2
  hi : ∀ j, j < m → gi cur (j * 2 + 1) = if up = true ∧ j < i then gi o j else gi cur0 (j * 2 + 1)
  lo : ∀ j, j < m → gi cur (j * 2) = if up = false ∧ j < i then -(gi o j) else gi cur0 (j * 2)
def updI (up : Bool) (cur : List Int) (c : Nat) (v : Int) : List Int := if up then cur.set (c * 2 + 1) v else cur.set (c * 2) (-v)
theorem Upd.next {up : Bool} {m i : Nat} {o cur0 cur : List Int} (h : Upd up m i o cur0 cur) (hi : i < m) : Upd up m (i + 1) o cur0 (updI up cur i (gi o i)) := by
  have hl := h.len
  unfold updI
  cases up
  · refine ⟨by simp [hl], fun j hj => ?_, fun j hj => ?_⟩
    · rw [if_neg (by decide), gi_setI (by omega), if_neg (by omega), h.hi j hj]
      simp
    · rw [if_neg (by decide), gi_setI (by omega), h.lo j hj]
      by_cases hji : j = i
      · subst hji; simp
      · rw [if_neg (by omega)]
        by_cases h2 : j < i
        · rw [if_pos ⟨rfl, h2⟩, if_pos ⟨rfl, by omega⟩]
        · rw [if_neg (fun x => h2 x.2), if_neg (fun x => by have := x.2; omega)]
  · refine ⟨by simp [hl], fun j hj => ?_, fun j hj => ?_⟩
    · rw [if_pos rfl, gi_setI (by omega), h.hi j hj]
      by_cases hji : j = i
      · subst hji; simp
      · rw [if_neg (by omega)]
        by_cases h2 : j < i
        · rw [if_pos ⟨rfl, h2⟩, if_pos ⟨rfl, by omega⟩]
        · rw [if_neg (fun x => h2 x.2), if_neg (fun x => by have := x.2; omega)]
    · rw [if_pos rfl, gi_setI (by omega), if_neg (by omega), h.lo j hj]
      simp
section
variable {g : Nat} {rd : Option Nat} {T : List Value} {D : List Nat} {A : Hp} {Q : Ex → St → Prop} {V : Value → Hp → Prop}
theorem wEndT {up : Bool} {a b : Int} (ha : -1200000 ≤ a ∧ a ≤ 1200000) (hV : ∀ A', Ext' A A' → V (.int .i64 (if up then b else -a)) A') : WV AP KL g (endT up) [.agg ⟨[.int .i64 a, .int .i64 b]⟩] A V := by
  have e : wr .i64 (-a) = -a := wrId (by omega) (by omega)
  cases up
  · unfold endT
    simp (disch := as_aux_lemma => first | omega | simp only [hDs] <;> omega | simp [isCell]) [hRs, takeMarks, resA, resAll, resOne, Value.cells]
    rw [WF_body (show KL 332 = none from rfl) (show AP 332 = some F332 from rfl)]
    simp (disch := as_aux_lemma => first | omega | simp only [hDs] <;> omega | simp [isCell]) [hRs, takeMarks, resA, resAll, resOne, Value.cells, F332, e]
    exact hV _ (Ext'.push _ _)
  · unfold endT
    simp (disch := as_aux_lemma => first | omega | simp only [hDs] <;> omega | simp [isCell]) [hRs, takeMarks, resA, resAll, resOne, Value.cells]
    rw [WF_body (show KL 274 = none from rfl) (show AP 274 = some F274 from rfl)]
    simp (disch := as_aux_lemma => first | omega | simp only [hDs] <;> omega | simp [isCell]) [hRs, takeMarks, resA, resAll, resOne, Value.cells, F274]
    exact hV _ (Ext'.push _ _)
theorem wSetT {up : Bool} {Xo Y cap m c : Nat} {w h s v : Int} {cur : List Int} (hXo : A.get Xo = some (boxG w h s (.slice (some ⟨Y, 0, some 2⟩) m cap))) (hY : A.get Y = some (.cells (ints cur) false)) (hl : cur.length = m * 2) (hc : c < m) (hg : g ≤ Y) (hv : -1200000 ≤ v ∧ v ≤ 1200000)
    (hV : ∀ v', V v' (A.set Y (some (.cells (ints (updI up cur c v)) false)))) : WV AP KL g (setT up Xo) [.int .i64 c, .int .i64 v] A V := by
  have e : wr .i64 (-v) = -v := wrId (by omega) (by omega)
  cases up
  · unfold setT
    have st : storeB (some (.cells (ints cur) false)) g A Y (c * 2) [.int .i64 (-v)] 1 = some (undef, A.set Y (some (.cells (ints (updI false cur c v)) false))) := by
      have := storeB_cells (A := A) (g := g) (k := Y) (o := c * 2) (size := 1) (cs := ints cur) (vs := [.int .i64 (-v)]) rfl hg (by rw [ints_length]; omega) rfl
      rw [setRange_intsI (by omega)] at this
      rw [this]; rfl
    simp (disch := as_aux_lemma => first | omega | simp only [hDs] <;> omega | simp [isCell]) [hRs, takeMarks, resA, resAll, resOne, Value.cells]
    rw [WF_body (show KL 333 = none from rfl) (show AP 333 = some F333 from rfl)]
    simp (disch := as_aux_lemma => first | omega | simp only [hDs] <;> omega | simp [isCell]) [hRs, takeMarks, resA, resAll, resOne, Value.cells, F333, hXo, boxG, idxSA_ok, hc, hY, e, st]
    exact hV _
  · unfold setT
    have st : storeB (some (.cells (ints cur) false)) g A Y (c * 2 + 1) [.int .i64 v] 1 = some (undef, A.set Y (some (.cells (ints (updI true cur c v)) false))) := by
      have := storeB_cells (A := A) (g := g) (k := Y) (o := c * 2 + 1) (size := 1) (cs := ints cur) (vs := [.int .i64 v]) rfl hg (by rw [ints_length]; omega) rfl
      rw [setRange_intsI (by omega)] at this
      rw [this]; rfl
    simp (disch := as_aux_lemma => first | omega | simp only [hDs] <;> omega | simp [isCell]) [hRs, takeMarks, resA, resAll, resOne, Value.cells]
    rw [WF_body (show KL 331 = none from rfl) (show AP 331 = some F331 from rfl)]
    simp (disch := as_aux_lemma => first | omega | simp only [hDs] <;> omega | simp [isCell]) [hRs, takeMarks, resA, resAll, resOne, Value.cells, F331, hXo, boxG, idxSA_ok, hc, hY, st]
    exact hV _
theorem loop329a {up : Bool} {b : TB} {A0 : Hp} {w h s st : Int} {m : Nat} {zs : List Int} {sl : Value} (hb : b.Ok) (hm : m < 1000) (hE : gridE w h s m zs = 0) (hsl : RdS A0 2 m (ints zs) sl) (hslN : ∀ z, blkOf sl = some z → z < b.N0) (hg : g ≤ b.N0)
    (hQ : ∀ T' A' o L, TL b m A0 A' o L → o.length = m → (∀ c, c < m → gi o c = (tPar up w h m zs st).bs c) → (∀ z, z ∈ L ↔ ∃ c : Nat, c < m ∧ z = ((c : Int), (tPar up w h m zs st).bs c)) → L.length = m → tget T' 1 = tget T 1 → tget T' 2 = tget T 2 → tget T' 3 = tget T 3 → tget T' 6 = .pointer (some ⟨b.X8, 0, none⟩) → tget T' 7 = .pointer (some ⟨b.X7, 0, none⟩) → Q (.exit 0) ⟨T', D, A'⟩) :
    ∀ (k i : Nat) {T1 : List Value} {A : Hp} (o : List Int) (L : List (Int × Int)), i + k = m → TL b m A0 A o L → o.length = m → (∀ c, c < i → gi o c = (tPar up w h m zs st).bs c) → (∀ z, z ∈ L ↔ ∃ c : Nat, c < i ∧ z = ((c : Int), (tPar up w h m zs st).bs c)) → L.length = i →
      tget T1 0 = endT up → tget T1 1 = tget T 1 → tget T1 2 = tget T 2 → tget T1 3 = tget T 3 → tget T1 6 = .pointer (some ⟨b.X8, 0, none⟩) → tget T1 7 = .pointer (some ⟨b.X7, 0, none⟩) → tget T1 21 = sl → tget T1 22 = .int .i64 m → tget T1 23 = .int .i64 i → W AP KL g rd (.loop body329a) ⟨T1, D, A⟩ Q := by
  intro k
  have hzl : zs.length = m * 2 := by have := hsl.1; simpa using this
  have k7 := hb.n7
  have k8 := hb.n8
  have kO := hb.nO
  induction k with
  | zero =>
    intro i T1 A o L hi hT hol ho hL hLl t0 t1 t2 t3 t6 t7 t21 t22 t23
    have : i = m := by omega
    subst this
    rw [W_loop]
    simp (disch := as_aux_lemma => first | omega | simp only [hDs] <;> omega | simp [isCell]) [hRs, takeMarks, resA, resAll, resOne, Value.cells, body329a, t22, t23]
    exact hQ _ _ o L hT hol ho hL hLl (by simp [t1]) (by simp [t2]) (by simp [t3]) (by simp [t6]) (by simp [t7])
  | succ k ih =>
    intro i T1 A o L hi hT hol ho hL hLl t0 t1 t2 t3 t6 t7 t21 t22 t23
    have him : i < m := by omega
    have e5 : wr .i64 ((i : Int) + 1) = ((i + 1 : Nat) : Int) := by rw [wrId (by omega) (by omega)]; simp
    obtain ⟨gb, gc, gr, hsl', hgb⟩ := (hsl.keepB (A' := A) fun z hz => hT.low z (hslN z hz)).at him
    have t21' := t21.trans hsl'
    have hv := (gridE_parts hE).2.2.2 i him
    have hnn := hT.nn
    obtain ⟨B, hB⟩ : ∃ B, B = A.push (.cells [.int .i64 (gi zs (i * 2)), .int .i64 (gi zs (i * 2 + 1))] false) := ⟨_, rfl⟩
    have eB : Ext' A B := by rw [hB]; exact Ext'.push _ _
    have b9 : B.get A.n = some (.cells [.int .i64 (gi zs (i * 2)), .int .i64 (gi zs (i * 2 + 1))] false) := by rw [hB]; exact get_push_new
    have hTB := hT.ext hb eB
    have x7 := hTB.x7
    unfold rowS1 at x7
    rw [W_loop]
    simp (disch := as_aux_lemma => first | omega | simp only [hDs] <;> omega | simp [isCell]) [hRs, takeMarks, resA, resAll, resOne, Value.cells, body329a, t0, t7, t21', t22, t23, show ((i : Int) < m) by omega, him, idxSA_ok, hgb, ints_two (show i * 2 + 2 ≤ zs.length by omega), fillA, storeB_cells, setRange, set_push_eq, setRange_all, ← hB, x7, b9]
    refine wEndT (by omega) fun A1 e1 => ?_
    have hT1 := hTB.ext hb e1
    have n1 := (eB.trans e1).1
    obtain ⟨bs, hbs⟩ : ∃ bs, bs = (tPar up w h m zs st).bs i := ⟨_, rfl⟩
    have hbs' : (if up = true then gi zs (i * 2 + 1) else -gi zs (i * 2)) = bs := by rw [hbs]; rfl
    obtain ⟨R1, R2⟩ := hT1.row (o' := o.set i bs) hb
    obtain ⟨A2, hA2⟩ : ∃ A2, A2 = A1.set b.OB (some (.cells (ints (o.set i bs)) false)) := ⟨_, rfl⟩
    have st1 : storeB (some (.cells (ints o) false)) g A1 b.OB i [.int .i64 bs] 1 = some (undef, A2) := by
      have := storeB_cells (A := A1) (g := g) (k := b.OB) (o := i) (size := 1) (cs := ints o) (vs := [.int .i64 bs]) rfl (by omega) (by rw [ints_length]; omega) rfl
      rw [setRange_intsI (by omega)] at this
      rw [this, hA2]
    rw [← hA2] at R1 R2
    have y7 := R1.x7
    unfold rowS1 at y7
    have hgo : gi (o.set i bs) i = bs := by rw [gi_setI (by omega), if_pos rfl]
    simp (disch := as_aux_lemma => first | omega | simp only [hDs] <;> omega | simp [isCell]) [hRs, takeMarks, resA, resAll, resOne, Value.cells, hbs', t6, t7, him, idxSA_ok, hT1.ob, st1, y7, R1.ob, ints_get (show i < (o.set i bs).length by rw [List.length_set]; omega), hgo, fillA, setRange]
    refine w277T (x := (i : Int)) (y := bs) R1.hp R1.nn (by omega) (by omega) fun v' A3 L' hl' hmem hH hU => ?_
    simp (disch := as_aux_lemma => first | omega | simp only [hDs] <;> omega | simp [isCell]) [hRs, takeMarks, resA, resAll, resOne, Value.cells, t23, e5]
    refine ih (i + 1) (o.set i bs) L' (by omega) (R1.heap hb hH hU) (by simp [hol]) (fun c hc => ?_) (fun z => ?_) (by omega) ?_ ?_ ?_ ?_ ?_ ?_ ?_ ?_ ?_
    · rw [gi_setI (by omega)]
      by_cases hci : c = i
      · subst hci; rw [if_pos rfl, hbs]
      · rw [if_neg hci]; exact ho c (by omega)
    · rw [hmem z, hL z]
      constructor
      · rintro (⟨c, h1, h2⟩ | h1)
        · exact ⟨c, by omega, h2⟩
        · exact ⟨i, by omega, by rw [h1, hbs]⟩
      · rintro ⟨c, h1, h2⟩
        by_cases hci : c = i
        · subst hci; exact .inr (by rw [h2, hbs])
        · exact .inl ⟨c, by omega, h2⟩
    all_goals simp [t0, t1, t2, t3, t6, t7, t21, t22]
theorem loop329c {up : Bool} {A0 : Hp} {Xo Y cap m OB : Nat} {w h s : Int} {o cur0 : List Int} (hm : m < 1000) (ho : o.length = m) (hor : ∀ c, c < m → -1200000 ≤ gi o c ∧ gi o c ≤ 1200000) (hXo : A0.get Xo = some (boxG w h s (.slice (some ⟨Y, 0, some 2⟩) m cap))) (hOB : A0.get OB = some (.cells (ints o) false)) (hne : Xo ≠ Y ∧ OB ≠ Y) (hYn : Y < A0.n) (hg : g ≤ Y)
    (hQ : ∀ T' A' cur, Upd up m m o cur0 cur → But Y A0 A' → A'.n = A0.n → A'.get Y = some (.cells (ints cur) false) → Q (.exit 6) ⟨T', D, A'⟩) :
    ∀ (k i : Nat) {T : List Value} {A : Hp} (cur : List Int), i + k = m → Upd up m i o cur0 cur → But Y A0 A → A.n = A0.n → A.get Y = some (.cells (ints cur) false) → tget T 1 = setT up Xo → tget T 80 = rowS1 OB m → tget T 81 = .int .i64 m → tget T 82 = .int .i64 i → W AP KL g rd (.loop body329c) ⟨T, D, A⟩ Q := by
  intro k
  induction k with
  | zero =>
    intro i T A cur hi hU hb hn hY t1 t80 t81 t82
    have : i = m := by omega
    subst this
    rw [W_loop]
    simp (disch := as_aux_lemma => first | omega | simp only [hDs] <;> omega | simp [isCell]) [hRs, takeMarks, resA, resAll, resOne, Value.cells, body329c, t81, t82]
    exact hQ _ _ cur hU hb hn hY
  | succ k ih =>
    intro i T A cur hi hU hb hn hY t1 t80 t81 t82
    have him : i < m := by omega
    have e5 : wr .i64 ((i : Int) + 1) = ((i + 1 : Nat) : Int) := by rw [wrId (by omega) (by omega)]; simp
    have aO : A.get OB = some (.cells (ints o) false) := by rw [hb.2 _ (Hp.lt_of_get hOB) hne.2]; exact hOB
    have aX : A.get Xo = some (boxG w h s (.slice (some ⟨Y, 0, some 2⟩) m cap)) := by rw [hb.2 _ (Hp.lt_of_get hXo) hne.1]; exact hXo
    unfold rowS1 at t80
    rw [W_loop]
    simp (disch := as_aux_lemma => first | omega | simp only [hDs] <;> omega | simp [isCell]) [hRs, takeMarks, resA, resAll, resOne, Value.cells, body329c, t1, t80, t81, t82, show ((i : Int) < m) by omega, him, idxSA_ok, aO, ints_get (show i < o.length by omega)]
    refine wSetT aX hY hU.len him hg (hor i him) fun v' => ?_
    simp (disch := as_aux_lemma => first | omega | simp only [hDs] <;> omega | simp [isCell]) [hRs, takeMarks, resA, resAll, resOne, Value.cells, t82, e5]
    refine ih (i + 1) (updI up cur i (gi o i)) (by omega) (hU.next him) (hb.trans (But.set (by omega) ⟨Nat.le_refl _, fun _ _ => rfl⟩)) (by simp [hn]) (get_set_same hY) ?_ ?_ ?_ ?_
    all_goals simp [t1, t80, t81, rowS1]
end
end Go.Ab.Grid
