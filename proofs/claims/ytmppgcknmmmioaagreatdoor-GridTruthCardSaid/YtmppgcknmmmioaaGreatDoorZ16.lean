/- The sills of the terrains of a grid, both ends. -/
import Derived.Test.YtmppgcknmmmioaaGreatDoorZ15
import Derived.Test.YtmppgcknmmmioaaGreatDoorZ13
import Derived.Test.YtmppgcknmmmioaaGreatDoorZ14
set_option linter.unusedSimpArgs false
set_option linter.unusedVariables false
set_option linter.unusedSectionVars false
set_option maxRecDepth 100000
namespace Go.Ab.Grid
open Go Go.Ab
def ptrV (x : Nat) : Value := .pointer (some ⟨x, 0, none⟩)
section
variable {g : Nat} {A : Hp} {V : Value → Hp → Prop}
structure N73 (g : Nat) (A0 : Hp) (w h c : Int) (b : Nat) (N : Nat) (l : List Int) (T : List Value) (A : Hp) : Prop where
  acc : ∃ sv, tget T 5 = sv ∧ AccS N A 1 (ints l) sv
  old : ∀ x, x < N → A.get x = A0.get x
  n : N ≤ A.n
  t1 : tget T 1 = .int .i64 c
  t2 : tget T 2 = ptrV b
  t6 : tget T 6 = .int .i64 (c.tmod w)
  t7 : tget T 7 = .int .i64 (c.tdiv w)
  len : l.length < 10
theorem N73.add {A0 : Hp} {w h c : Int} {b N : Nat} {l : List Int} {T : List Value} (hN : N73 g A0 w h c b N l T A) (hg : g ≤ N) (z : Int) :
    ∃ sv sv' A', tget T 5 = sv ∧ appendA g (A.push (.cells [.int .i64 z] false)) 1 8 sv (.slice (some ⟨A.n, 0, some 1⟩) 1 1) = some (sv', A') ∧ AccS N A' 1 (ints (l ++ [z])) sv' ∧ (∀ x, x < N → A'.get x = A0.get x) ∧ N ≤ A'.n := by
  obtain ⟨sv, h5, hacc⟩ := hN.acc
  have hl := hN.len
  obtain ⟨sv', A', e, h1, h2, h3⟩ := hacc.add (g := g) (bytes := 8) (new := [.int .i64 z]) (ro := false) (n := l.length) hg hN.n rfl (by decide) rfl (by simp) (by unfold room; omega)
  refine ⟨sv, sv', A', h5, e, ?_, fun x hx => by rw [h2 x hx, hN.old x hx], by have := hN.n; omega⟩
  rw [ints_append]; exact h1
end
end Go.Ab.Grid
set_option maxRecDepth 100000
namespace Go.Ab.Grid
open Go Go.Ab
def asg113 : ACode := (.ops [oM 5 7])
def body113 : ACode := (.block 1
 (.ops [
oL 8 2,
oM 9 5,
oP 10 (.slit 1 1 [.int .i64 0] [(0, .t 9)]),
oP 11 (.append (.t 8) (.t 10) 1 8),
oT 2 11 1]))
structure NbP (A0 : Hp) (T1 : List Value) (done : List Int) (A : Hp) : Prop where
  e : Ext' A0 A
  n : A0.n + 4 ≤ A.n
  m : A.get (A0.n + 1) = some .marks
  l : A.get (A0.n + 2) = some (recL T1 [7] asg113 body113)
  r : A.get (A0.n + 3) = some (.cells (ints dirI) false)
  s : ∃ sv, A.get A0.n = some (.cells [sv] false) ∧ AccS (A0.n + 4) A 1 (ints done) sv
theorem NbP.push {A0 A : Hp} {T1 : List Value} {done : List Int} (h : NbP A0 T1 done A) (b : ABlk) : NbP A0 T1 done (A.push b) := by
  obtain ⟨e, n, m, l, r, sv, s1, s2⟩ := h
  have k := Ext'.push A b
  exact ⟨e.trans k, by simp; omega, k.get m, k.get l, k.get r, sv, k.get s1, s2.mono k.2⟩
section
variable {g : Nat} {rd : Option Nat} {T : List Value} {D : List Nat} {A : Hp} {Q : Ex → St → Prop} {V : Value → Hp → Prop}
end
end Go.Ab.Grid
set_option maxRecDepth 100000
namespace Go.Ab.Grid
open Go Go.Ab
theorem _root_.Go.Ab.AccS.rdS {N : Nat} {A : Hp} {k : Nat} {cs : List Value} {sv : Value} (h : AccS N A k cs sv) : ∃ n, RdS A k n cs sv := by
  rcases h with ⟨rfl, rfl⟩ | ⟨b, n, rfl, h2, _, h4, _⟩
  · exact ⟨0, by simp, .inl ⟨rfl, rfl⟩⟩
  · exact ⟨n, h4, .inr ⟨b, n, false, rfl, h2⟩⟩
theorem list_gi {a b : List Int} (h : a.length = b.length) (hx : ∀ i, i < a.length → gi a i = gi b i) : a = b := by
  apply List.ext_getElem h
  intro i h1 h2
  have := hx i h1
  simpa [gi, List.getD, h1, h2] using this
section
variable {g : Nat} {rd : Option Nat} {T : List Value} {D : List Nat} {A : Hp} {Q : Ex → St → Prop} {V : Value → Hp → Prop}
end
end Go.Ab.Grid
set_option maxRecDepth 100000
namespace Go.Ab.Grid
open Go Go.Ab
structure G where
  w : Int
  h : Int
  s : Int
  m : Nat
  zs : List Int
def G0 : G := ⟨0, 0, 0, 0, []⟩
def G.E (x : G) : Int := gridE x.w x.h x.s x.m x.zs
def GAt (A : Hp) (x : G) (v : Value) : Prop := ∃ sl, v = gridV x.w x.h x.s sl ∧ RdS A 2 x.m (ints x.zs) sl
theorem GAt.mono {A A' : Hp} {x : G} {v : Value} (h : GAt A x v) (e : Ext' A A') : GAt A' x v := by
  obtain ⟨sl, h1, h2⟩ := h; exact ⟨sl, h1, e.rdS h2⟩
theorem GAt.zero {A : Hp} : GAt A G0 (gridV 0 0 0 (.slice none 0 0)) := ⟨_, rfl, by simp [G0, ints], .inl ⟨rfl, rfl⟩⟩
theorem copy_fresh {g k bytes m : Nat} {A : Hp} {cs : List Value} {src : Value} (h : RdS A k m cs src) (hcell : cs.all isCell = true) (hg : g ≤ A.n) (hk : 0 < k) (hr : m * bytes ≤ room ∧ m ≤ room) :
    ∃ Y c A', appendA g (A.push (.cells [] false)) k bytes (.slice (some ⟨A.n, 0, some k⟩) 0 0) src = some (.slice (some ⟨Y, 0, some k⟩) m c, A') ∧ Ext' A A' ∧ A'.get Y = some (.cells cs false) ∧ A.n ≤ Y := by
  have e1 := Ext'.push A (.cells [] false)
  have hc := (h.push (x := .cells [] false)).cellsAt
  obtain ⟨p, c, rfl⟩ : ∃ p c, src = .slice p m c := by rcases h with ⟨_, ⟨rfl, rfl⟩ | ⟨_, _, _, rfl, _⟩⟩ <;> exact ⟨_, _, rfl⟩
  unfold appendA
  simp only [hc]
  rw [if_pos ⟨hcell, hk⟩]
  by_cases hm : m = 0
  · subst hm
    rw [if_pos rfl]
    refine ⟨_, _, _, rfl, e1, ?_, Nat.le_refl _⟩
    have : cs = [] := List.eq_nil_of_length_eq_zero (by have := h.1; simpa using this)
    rw [get_push_new, this]
  · rw [if_neg hm]
    simp only [get_push_new]
    rw [if_pos ⟨hg, by simpa using hr.1, by simpa using hr.2, trivial⟩, if_pos (by simp)]
    refine ⟨A.n + 1, m, ((A.push (.cells [] false)).set A.n none).push (.cells cs false), by simp, ⟨by simp; omega, fun z hz => ?_⟩, by rw [get_push_eq (by simp)], by omega⟩
    rw [get_push_old (by simp; omega), get_set_ne (by simp) (by omega), get_push_old hz]
section
variable {g : Nat} {rd : Option Nat} {T : List Value} {D : List Nat} {A : Hp} {Q : Ex → St → Prop} {V : Value → Hp → Prop}
end
end Go.Ab.Grid
set_option maxRecDepth 100000
namespace Go.Ab.Grid
open Go Go.Ab
def GV3 (A : Hp) (r : G × Int × Int) (v : Value) : Prop := ∃ vg, v = .tuple ⟨[vg, .int .i64 r.2.1, .int .i64 r.2.2]⟩ ∧ GAt A r.1 vg
theorem setRange_two {cur : List Int} {i : Nat} {a b : Int} (h : i * 2 + 2 ≤ cur.length) : setRange (ints cur) (i * 2) [.int .i64 a, .int .i64 b] = ints ((cur.set (i * 2) a).set (i * 2 + 1) b) := by
  have hl : (ints cur).length = cur.length := by simp
  have e1 : ints ((cur.set (i * 2) a).set (i * 2 + 1) b) = ((ints cur).set (i * 2) (.int .i64 a)).set (i * 2 + 1) (.int .i64 b) := by simp [ints, List.map_set]
  rw [e1]
  generalize ints cur = l at hl ⊢
  apply List.ext_getElem?
  intro j
  simp only [setRange, List.length_cons, List.length_nil]
  rw [List.getElem?_set, List.getElem?_set, List.append_assoc]
  by_cases h1 : j < i * 2
  · rw [List.getElem?_append_left (by simp; omega), List.getElem?_take_of_lt h1, if_neg (by omega), if_neg (by omega)]
  · rw [List.getElem?_append_right (by simp; omega)]
    have ht : (l.take (i * 2)).length = i * 2 := by simp; omega
    rw [ht]
    by_cases h2 : j = i * 2
    · subst h2
      simp [show i * 2 < l.length by omega]
    · by_cases h3 : j = i * 2 + 1
      · subst h3
        simp [show i * 2 + 1 < l.length by omega]
      · obtain ⟨q, rfl⟩ : ∃ q, j = i * 2 + 2 + q := ⟨j - (i * 2 + 2), by omega⟩
        rw [if_neg (by omega), if_neg (by omega), show i * 2 + 2 + q - i * 2 = q + 2 by omega]
        simp [List.getElem?_drop]
theorem _root_.Go.Ab.RdS.isSlice' {A : Hp} {k n : Nat} {cs : List Value} {sv : Value} (h : RdS A k n cs sv) : ∃ p c, sv = .slice p n c := by
  rcases h with ⟨_, ⟨rfl, rfl⟩ | ⟨_, _, _, rfl, _⟩⟩ <;> exact ⟨_, _, rfl⟩
abbrev zeroG : ABlk := .cells [.int .i64 0, .int .i64 0, .int .i64 0, .slice none 0 0] false
section
variable {g : Nat} {rd : Option Nat} {T : List Value} {D : List Nat} {A : Hp} {Q : Ex → St → Prop} {V : Value → Hp → Prop}
theorem GAt.tuple {A : Hp} {x : G} {vg : Value} {i e : Int} (h : GAt A x vg) : GV3 A (x, i, e) (.tuple ⟨[vg, .int .i64 i, .int .i64 e]⟩) := ⟨vg, rfl, h⟩
end
end Go.Ab.Grid
set_option maxRecDepth 100000
namespace Go.Ab.Grid
open Go Go.Ab
@[simp] theorem GuardW_un {AP : Nat → Option AFunc} {K : Nat → Option Spec} {g : Nat} {dst : Option Nat} {op : AOp} {l : List AOper} {T : List Value} {A : Hp} {R : List Value → Hp → Prop} {b : Bool} :
    GuardW AP K g dst op l T A R b undef = WO AP K g l (putA dst T undef) A R := rfl
section
variable {g : Nat} {rd : Option Nat} {T : List Value} {D : List Nat} {A : Hp} {Q : Ex → St → Prop} {V : Value → Hp → Prop}
end
end Go.Ab.Grid
set_option maxRecDepth 100000
namespace Go.Ab.Grid
open Go Go.Ab
def sndC (m : Nat) (ls : List Int) (i : Nat) : Int :=
  if (decide (0 ≤ gi ls (i * 3)) && decide (gi ls (i * 3) ≤ (m : Int) - 1)) = true then
    if (decide (-1200000 ≤ gi ls (i * 3 + 1)) && decide (gi ls (i * 3 + 1) ≤ 1200000)) = true then if (decide (0 ≤ gi ls (i * 3 + 2)) && decide (gi ls (i * 3 + 2) ≤ 100000)) = true then 0 else 3 else 3
  else 4
section
variable {g : Nat} {rd : Option Nat} {T : List Value} {D : List Nat} {A : Hp} {Q : Ex → St → Prop} {V : Value → Hp → Prop}
end
end Go.Ab.Grid
set_option maxRecDepth 100000
namespace Go.Ab.Grid
open Go Go.Ab
section
variable {g : Nat} {rd : Option Nat} {T : List Value} {D : List Nat} {A : Hp} {Q : Ex → St → Prop} {V : Value → Hp → Prop}
end
end Go.Ab.Grid
set_option maxRecDepth 100000
namespace Go.Ab.Grid
open Go Go.Ab
section
variable {g : Nat} {rd : Option Nat} {T : List Value} {D : List Nat} {A : Hp} {Q : Ex → St → Prop} {V : Value → Hp → Prop}
end
end Go.Ab.Grid
set_option maxRecDepth 100000
namespace Go.Ab.Grid
open Go Go.Ab
structure Land where
  wide : Int
  high : Int
  nl : Nat
  low : List Int
  nm : Nat
  more : List Int
def Land.lo (L : Land) (i : Nat) : Int := if 0 < L.nl then gi L.low (i % L.nl) else 0
def Land.hi (L : Land) (i : Nat) : Int := L.lo i + if 0 < L.nm then gi L.more (i % L.nm) else 0
def Land.w (L : Land) : Int := 1 + L.wide.tmod 5
def Land.h (L : Land) : Int := 1 + L.high.tmod 5
def Land.n (L : Land) : Nat := (L.w * L.h).toNat
def Land.zs (L : Land) : Nat → List Int
  | 0 => []
  | i + 1 => L.zs i ++ [L.lo i, L.hi i]
def Land.G (L : Land) : G := ⟨L.w, L.h, 100, L.n, L.zs L.n⟩
structure Land.Ok (L : Land) : Prop where
  wide : 0 ≤ L.wide ∧ L.wide ≤ 255
  high : 0 ≤ L.high ∧ L.high ≤ 255
  low : ∀ i, -32768 ≤ gi L.low i ∧ gi L.low i ≤ 32767
  more : ∀ i, 0 ≤ gi L.more i ∧ gi L.more i ≤ 255
  nl : L.low.length = L.nl ∧ L.nl ≤ 9223372036854775807
  nm : L.more.length = L.nm ∧ L.nm ≤ 9223372036854775807
def Land.At (L : Land) (A : Hp) (sl sm : Value) : Prop := RdS A 1 L.nl (kints .i16 L.low) sl ∧ RdS A 1 L.nm (kints .u8 L.more) sm
def Land.V (L : Land) (sl sm : Value) : Value := .agg ⟨[.int .u8 L.wide, .int .u8 L.high, sl, sm]⟩
theorem Land.zs_len {L : Land} : ∀ {i : Nat}, (L.zs i).length = i * 2
  | 0 => rfl
  | i + 1 => by rw [Land.zs, List.length_append, Land.zs_len]; simp; omega
theorem Land.Ok.w {L : Land} (h : L.Ok) : 1 ≤ L.w ∧ L.w ≤ 5 := by
  have h1 := Int.tmod_nonneg 5 h.wide.1
  have h2 := Int.tmod_lt_of_pos L.wide (show (0 : Int) < 5 by decide)
  unfold Land.w; omega
theorem Land.Ok.h {L : Land} (h : L.Ok) : 1 ≤ L.h ∧ L.h ≤ 5 := by
  have h1 := Int.tmod_nonneg 5 h.high.1
  have h2 := Int.tmod_lt_of_pos L.high (show (0 : Int) < 5 by decide)
  unfold Land.h; omega
theorem Land.Ok.n {L : Land} (h : L.Ok) : (L.n : Int) = L.w * L.h ∧ 1 ≤ L.n ∧ L.n ≤ 25 := by
  have a := Int.mul_le_mul h.w.1 h.h.1 (by decide) (by have := h.w; omega)
  have b := Int.mul_le_mul h.w.2 h.h.2 (by have := h.h; omega) (by decide)
  unfold Land.n; omega
section
variable {g : Nat} {rd : Option Nat} {T : List Value} {D : List Nat} {A : Hp} {Q : Ex → St → Prop} {V : Value → Hp → Prop}
theorem loop310 {A0 : Hp} {L : Land} {sl sm : Value} {XL X3 N : Nat} (hO : L.Ok) (hat : L.At A0 sl sm) (hXL : A0.get XL = some (.cells [.int .u8 L.wide, .int .u8 L.high, sl, sm] false)) (hN : A0.n = N) (hX3 : X3 < N) (hg3 : g ≤ X3) (hg : g ≤ N) (hne : XL ≠ X3) (hsl3 : ∀ z, blkOf sl = some z → z ≠ X3) (hsm3 : ∀ z, blkOf sm = some z → z ≠ X3)
    (hQ : ∀ T' A' sv, But X3 A0 A' → A'.get X3 = some (.cells [.int .i64 L.w, .int .i64 L.h, .int .i64 100, sv] false) → AccS N A' 2 (ints (L.zs L.n)) sv → tget T' 2 = tget T 2 → tget T' 3 = .pointer (some ⟨X3, 0, none⟩) → Q (.exit 0) ⟨T', D, A'⟩) :
    ∀ (k i : Nat) {T1 : List Value} {A : Hp} (sv : Value), i + k = L.n → But X3 A0 A → A.get X3 = some (.cells [.int .i64 L.w, .int .i64 L.h, .int .i64 100, sv] false) → AccS N A 2 (ints (L.zs i)) sv → tget T1 2 = tget T 2 →
      tget T1 1 = .pointer (some ⟨XL, 0, none⟩) → tget T1 3 = .pointer (some ⟨X3, 0, none⟩) → tget T1 21 = .int .i64 L.n → tget T1 22 = .int .i64 i → W AP KL g rd (.loop body310) ⟨T1, D, A⟩ Q := by
  intro k
  have hnb := hO.n
  have hXLn := Hp.lt_of_get hXL
  induction k with
  | zero =>
    intro i T1 A sv hi hb h3 hacc k2 t1 t3 t21 t22
    have : i = L.n := by omega
    subst this
    rw [W_loop]
    simp (disch := as_aux_lemma => first | omega | simp only [hDs] <;> omega | simp [isCell]) [hRs, takeMarks, resA, resAll, resOne, Value.cells, body310, t21, t22]
    exact hQ _ _ sv hb h3 hacc (by simp [k2]) (by simp [t3])
  | succ k ih =>
    intro i T1 A sv hi hb h3 hacc k2 t1 t3 t21 t22
    have e5 : wr .i64 ((i : Int) + 1) = ((i + 1 : Nat) : Int) := by rw [wrId (by omega) (by omega)]; simp
    have hAn := hb.1
    have aL : A.get XL = some (.cells [.int .u8 L.wide, .int .u8 L.high, sl, sm] false) := by rw [hb.2 _ hXLn hne]; exact hXL
    have hslA := hat.1.keepB (A' := A) fun z hz => hb.2 z (hat.1.blk_lt hz) (hsl3 z hz)
    have hsmA := hat.2.keepB (A' := A) fun z hz => hb.2 z (hat.2.blk_lt hz) (hsm3 z hz)
    have ll := hslA.len
    have lm := hsmA.len
    have olo : -32768 ≤ L.lo i ∧ L.lo i ≤ 32767 := by unfold Land.lo; split; exact hO.low _; omega
    obtain ⟨dd, hdd, hdd0⟩ : ∃ dd, dd = (if 0 < L.nm then gi L.more (i % L.nm) else 0) ∧ 0 ≤ dd ∧ dd ≤ 255 := ⟨_, rfl, by split; exact hO.more _; omega⟩
    have hhi : L.hi i = L.lo i + dd := by rw [Land.hi, hdd]
    have e6 : wr .i64 (L.lo i) = L.lo i := wrId (by omega) (by omega)
    have e7 : wr .i64 dd = dd := wrId (by omega) (by omega)
    have e8 : wr .i64 (L.lo i + dd) = L.lo i + dd := wrId (by omega) (by omega)
    obtain ⟨sv', A1, a1, a2, a3, a4⟩ := append_acc (g := g) (bytes := 16) (y := A.n + 1) (A := (A.push (.cells [.int .i64 (L.lo i), .int .i64 (L.lo i + dd)] false)).push (.cells [.int .i64 (L.lo i), .int .i64 (L.lo i + dd)] false)) (new := [.int .i64 (L.lo i), .int .i64 (L.lo i + dd)]) (ro := false) (n := i)
      (hacc.mono ((Ext'.push A _).trans (Ext'.push _ _)).2) (by omega) (by simp; omega) (get_push_eq (by simp)) rfl (by decide) rfl (by simp [Land.zs_len]) (by unfold room; omega)
    rw [show ints (L.zs i) ++ [.int .i64 (L.lo i), .int .i64 (L.lo i + dd)] = ints (L.zs (i + 1)) by rw [Land.zs, ints_append, hhi]; rfl] at a2
    obtain ⟨ad, nn, cc, rfl⟩ : ∃ ad nn cc, sv' = .slice ad nn cc := by rcases a2 with ⟨rfl, _⟩ | ⟨_, _, rfl, _⟩ <;> exact ⟨_, _, _, rfl⟩
    have c3 : A1.get X3 = some (.cells [.int .i64 L.w, .int .i64 L.h, .int .i64 100, sv] false) := by rw [a3 _ (by omega), get_push_old (by simp; omega), get_push_old (by omega)]; exact h3
    have hfin : ∀ T2, tget T2 2 = tget T 2 → tget T2 1 = .pointer (some ⟨XL, 0, none⟩) → tget T2 3 = .pointer (some ⟨X3, 0, none⟩) → tget T2 21 = .int .i64 L.n → tget T2 22 = .int .i64 ((i + 1 : Nat) : Int) →
        W AP KL g rd (.loop body310) ⟨T2, D, A1.set X3 (some (.cells [.int .i64 L.w, .int .i64 L.h, .int .i64 100, .slice ad nn cc] false))⟩ Q := fun T2 j2 j1 j3 j21 j22 => by
      have o1 : ∀ z, z < A1.n → z ≠ X3 → (A1.set X3 (some (.cells [.int .i64 L.w, .int .i64 L.h, .int .i64 100, .slice ad nn cc] false))).get z = A1.get z := fun z hz hzn => get_set_ne (Hp.lt_of_get c3) hzn
      refine ih (i + 1) (.slice ad nn cc) (by omega) ⟨by simp [a4]; omega, fun z hz hzn => ?_⟩ (get_set_same c3) (a2.keepB fun b hbb => o1 b (a2.blk_ge hbb).2 (by have := (a2.blk_ge hbb).1; omega)) j2 j1 j3 j21 j22
      rw [o1 z (by rw [a4]; simp; omega) hzn, a3 z (by omega), get_push_old (by simp; omega), get_push_old (by omega), hb.2 z hz hzn]
    have z1 : zeros 1 [Value.int .i64 0, .int .i64 0] = [.int .i64 0, .int .i64 0] := rfl
    rw [W_loop]
    by_cases hl : 0 < L.nl
    · have em : ((i : Int).tmod L.nl) = ((i % L.nl : Nat) : Int) := by rw [Int.tmod_eq_emod_of_nonneg (by omega)]; simp
      have hml : i % L.nl < L.nl := Nat.mod_lt _ hl
      have en : ((i : Int) % (L.nl : Int)).toNat = i % L.nl := by rw [← Int.natCast_emod]; exact Int.toNat_natCast _
      obtain ⟨xb, xc, xr, rfl, hxb⟩ := hslA.at hl
      have hxbn := Hp.lt_of_get hxb
      have elo : L.lo i = gi L.low (i % L.nl) := if_pos hl
      rw [elo] at e6 e8 a1
      by_cases hm : 0 < L.nm
      · have em2 : ((i : Int).tmod L.nm) = ((i % L.nm : Nat) : Int) := by rw [Int.tmod_eq_emod_of_nonneg (by omega)]; simp
        have hmm : i % L.nm < L.nm := Nat.mod_lt _ hm
        have en2 : ((i : Int) % (L.nm : Int)).toNat = i % L.nm := by rw [← Int.natCast_emod]; exact Int.toNat_natCast _
        obtain ⟨yb, yc, yr, rfl, hxm⟩ := hsmA.at hm
        have hxmn := Hp.lt_of_get hxm
        rw [if_pos hm] at hdd
        subst hdd
        simp (disch := as_aux_lemma => first | omega | simp only [hDs] <;> omega | simp [isCell]) [hRs, takeMarks, resA, resAll, resOne, Value.cells, body310, t1, t3, t21, t22, show ((i : Int) < L.n) by omega, fillA, storeB_cells, setRange_all, set_push_eq, aL, ll, lm, h3, idxSA_ok, setRange, slitA, z1, a1, c3, toIntA, e5, hl, binA_rem (show ((L.nl : Nat) : Int) ≠ 0 by omega), em, en, hml, hxb, kints_get (k := .i16) (show i % L.nl < L.low.length by rw [hO.nl.1]; exact hml), e6, hm, binA_rem (show ((L.nm : Nat) : Int) ≠ 0 by omega), em2, en2, hmm, hxm, kints_get (k := .u8) (show i % L.nm < L.more.length by rw [hO.nm.1]; exact hmm), e7, e8]
        exact hfin _ (by simp [k2]) (by simp [t1]) (by simp [t3]) (by simp [t21]) (by simp)
      · rw [if_neg hm] at hdd
        subst hdd
        try simp only [Int.add_zero] at a1
        simp (disch := as_aux_lemma => first | omega | simp only [hDs] <;> omega | simp [isCell]) [hRs, takeMarks, resA, resAll, resOne, Value.cells, body310, t1, t3, t21, t22, show ((i : Int) < L.n) by omega, fillA, storeB_cells, setRange_all, set_push_eq, aL, ll, lm, h3, idxSA_ok, setRange, slitA, z1, a1, c3, toIntA, e5, hl, binA_rem (show ((L.nl : Nat) : Int) ≠ 0 by omega), em, en, hml, hxb, kints_get (k := .i16) (show i % L.nl < L.low.length by rw [hO.nl.1]; exact hml), e6, hm, show L.nm = 0 by omega]
        exact hfin _ (by simp [k2]) (by simp [t1]) (by simp [t3]) (by simp [t21]) (by simp)
    · have elo : L.lo i = 0 := if_neg hl
      rw [elo] at e6 e8 a1
      simp only [Int.zero_add] at e8 a1
      by_cases hm : 0 < L.nm
      · have em2 : ((i : Int).tmod L.nm) = ((i % L.nm : Nat) : Int) := by rw [Int.tmod_eq_emod_of_nonneg (by omega)]; simp
        have hmm : i % L.nm < L.nm := Nat.mod_lt _ hm
        have en2 : ((i : Int) % (L.nm : Int)).toNat = i % L.nm := by rw [← Int.natCast_emod]; exact Int.toNat_natCast _
        obtain ⟨yb, yc, yr, rfl, hxm⟩ := hsmA.at hm
        have hxmn := Hp.lt_of_get hxm
        rw [if_pos hm] at hdd
        subst hdd
        simp (disch := as_aux_lemma => first | omega | simp only [hDs] <;> omega | simp [isCell]) [hRs, takeMarks, resA, resAll, resOne, Value.cells, body310, t1, t3, t21, t22, show ((i : Int) < L.n) by omega, fillA, storeB_cells, setRange_all, set_push_eq, aL, ll, lm, h3, idxSA_ok, setRange, slitA, z1, a1, c3, toIntA, e5, hl, show L.nl = 0 by omega, hm, binA_rem (show ((L.nm : Nat) : Int) ≠ 0 by omega), em2, en2, hmm, hxm, kints_get (k := .u8) (show i % L.nm < L.more.length by rw [hO.nm.1]; exact hmm), e7, e8]
        exact hfin _ (by simp [k2]) (by simp [t1]) (by simp [t3]) (by simp [t21]) (by simp)
      · rw [if_neg hm] at hdd
        subst hdd
        try simp only [Int.add_zero] at a1
        simp (disch := as_aux_lemma => first | omega | simp only [hDs] <;> omega | simp [isCell]) [hRs, takeMarks, resA, resAll, resOne, Value.cells, body310, t1, t3, t21, t22, show ((i : Int) < L.n) by omega, fillA, storeB_cells, setRange_all, set_push_eq, aL, ll, lm, h3, idxSA_ok, setRange, slitA, z1, a1, c3, toIntA, e5, hl, show L.nl = 0 by omega, hm, show L.nm = 0 by omega]
        exact hfin _ (by simp [k2]) (by simp [t1]) (by simp [t3]) (by simp [t21]) (by simp)
theorem w310 {L : Land} {sl sm : Value} (hO : L.Ok) (hat : L.At A sl sm) (hg : g ≤ A.n) (hV : ∀ A' v, Ext' A A' → GAt A' L.G v → V v A') : WF AP KL g 310 [L.V sl sm] A V := by
  obtain ⟨pl, cl, rfl⟩ := hat.1.isSlice'
  obtain ⟨pm, cm, rfl⟩ := hat.2.isSlice'
  have hnb := hO.n
  have hw := hO.w
  have hh := hO.h
  rw [WF_body (show KL 310 = none from rfl) (show AP 310 = some F310 from rfl)]
  have ew : wr .i64 L.wide = L.wide := wrId (by have := hO.wide; omega) (by have := hO.wide; omega)
  have eh : wr .i64 L.high = L.high := wrId (by have := hO.high; omega) (by have := hO.high; omega)
  have e1 : wr .i64 (1 + L.wide.tmod 5) = L.w := by show _ = 1 + L.wide.tmod 5; exact wrId (by have := hw; unfold Land.w at this; omega) (by have := hw; unfold Land.w at this; omega)
  have e2 : wr .i64 (1 + L.high.tmod 5) = L.h := by show _ = 1 + L.high.tmod 5; exact wrId (by have := hh; unfold Land.h at this; omega) (by have := hh; unfold Land.h at this; omega)
  have e3 : wr .i64 (L.w * L.h) = (L.n : Int) := by rw [← hnb.1]; exact wrId (by omega) (by omega)
  obtain ⟨B, hB⟩ : ∃ B, B = ((A.push (.cells [.int .u8 L.wide, .int .u8 L.high, .slice pl L.nl cl, .slice pm L.nm cm] false)).push zeroG).push (.cells [.int .i64 L.w, .int .i64 L.h, .int .i64 100, .slice none 0 0] false) := ⟨_, rfl⟩
  have eB : Ext' A B := by rw [hB]; exact ((Ext'.push _ _).trans (Ext'.push _ _)).trans (Ext'.push _ _)
  have nB : B.n = A.n + 3 := by rw [hB]; rfl
  have b0 : B.get A.n = some (.cells [.int .u8 L.wide, .int .u8 L.high, .slice pl L.nl cl, .slice pm L.nm cm] false) := by rw [hB, get_push_old (by simp; omega), get_push_old (by simp), get_push_eq (by omega)]
  have b1 : B.get (A.n + 1) = some zeroG := by rw [hB, get_push_old (by simp), get_push_eq (by simp)]
  have b2 : B.get (A.n + 2) = some (.cells [.int .i64 L.w, .int .i64 L.h, .int .i64 100, .slice none 0 0] false) := by rw [hB, get_push_eq (by simp)]
  unfold zeroG at hB
  simp (disch := as_aux_lemma => first | omega | simp only [hDs] <;> omega | simp [isCell]) [hRs, takeMarks, resA, resAll, resOne, Value.cells, F310, Land.V, toIntA, ew, eh, binA_rem (show (5 : Int) ≠ 0 by decide), e1, e2, e3, fillA, setRange, storeB_cells, set_push_eq, setRange_all, ← hB, b2]
  refine loop310 (A0 := B) (L := L) (XL := A.n) (X3 := A.n + 2) (N := B.n) hO ⟨eB.rdS hat.1, eB.rdS hat.2⟩ b0 rfl (by omega) (by omega) (by omega) (by omega) (fun z hz => by have := hat.1.blk_lt hz; omega) (fun z hz => by have := hat.2.blk_lt hz; omega)
    (fun T' A' sv hb h3 hacc k2 t3 => ?_) L.n 0 (.slice none 0 0) (by omega) (But.of_ext ⟨Nat.le_refl _, fun _ _ => rfl⟩) b2 AccS.nil rfl ?_ ?_ ?_ ?_
  · simp at k2
    have hn := hb.1
    have c1 : A'.get (A.n + 1) = some zeroG := by rw [hb.2 _ (by omega) (by omega)]; exact b1
    obtain ⟨ad, nn, cc, rfl⟩ : ∃ ad nn cc, sv = .slice ad nn cc := by rcases hacc with ⟨rfl, _⟩ | ⟨_, _, rfl, _⟩ <;> exact ⟨_, _, _, rfl⟩
    simp (disch := as_aux_lemma => first | omega | simp only [hDs] <;> omega | simp [isCell]) [hRs, takeMarks, resA, resAll, resOne, Value.cells, k2, t3, h3, c1, storeB_cells, setRange_all, get_set_same c1]
    have o1 : ∀ (b : Option ABlk) z, z ≠ A.n + 1 → (A'.set (A.n + 1) b).get z = A'.get z := fun b z hz => get_set_ne (by omega) hz
    refine hV _ _ ⟨by simp; omega, fun z hz => by rw [o1 _ z (by omega), hb.2 z (by omega) (by omega), eB.2 z hz]⟩ ⟨_, rfl, ?_⟩
    have hacc' := hacc.keepB (A' := A'.set (A.n + 1) (some (.cells [.int .i64 L.w, .int .i64 L.h, .int .i64 100, .slice ad nn cc] false))) fun b hbb => o1 _ b (by have := (hacc.blk_ge hbb).1; omega)
    obtain ⟨q, hq⟩ := hacc'.rdS
    have : q = L.n := by have := hq.1; simp [Land.zs_len] at this; omega
    subst this
    exact hq
  · simp
  · simp
  · simp
  · simp
end
end Go.Ab.Grid
set_option maxRecDepth 100000
namespace Go.Ab.Grid
open Go Go.Ab
def noneV : Int := 1073741824
structure SPar where
  m : Nat
  ht : Nat → Int
  nb : Nat → List Nat
  sea : List Nat
structure SParOk (P : SPar) : Prop where
  nb : ∀ c, c < P.m → ∀ d, d ∈ P.nb c → d < P.m
  sea : ∀ c, c ∈ P.sea → c < P.m
  ht : ∀ c, c < P.m → -2000000 ≤ P.ht c ∧ P.ht c ≤ 1073741824
inductive SPar.Der (P : SPar) : Nat → Int → Prop
  | base {c : Nat} : c ∈ P.sea → P.Der c (max (P.ht c) (-1073741824))
  | step {c d : Nat} {v : Int} : P.Der c v → d ∈ P.nb c → P.Der d (max (P.ht d) v)
theorem SPar.Der.lt {P : SPar} (hP : SParOk P) : ∀ {c : Nat} {v : Int}, P.Der c v → c < P.m
  | _, _, .base h => hP.sea _ h
  | _, _, .step h1 h2 => hP.nb _ (SPar.Der.lt hP h1) _ h2
theorem SPar.Der.rng {P : SPar} (hP : SParOk P) : ∀ {c : Nat} {v : Int}, P.Der c v → -2000000 ≤ v ∧ v ≤ 1073741824
  | c, _, .base h => by have := hP.ht c (hP.sea _ h); omega
  | d, _, .step h1 h2 => by
    have h3 := SPar.Der.rng hP h1
    have := hP.ht d (hP.nb _ (SPar.Der.lt hP h1) _ h2)
    omega
structure Cur where
  c : Nat
  v : Int
  done : List Nat
def Cur.ok (P : SPar) (o : List Int) (k : Cur) (a : Nat) : Prop := a = k.c ∧ gi o a = k.v ∧ ∀ d, d ∈ k.done → gi o d ≤ max (P.ht d) k.v
structure SMid (P : SPar) (o : List Int) (L : List (Int × Int)) (cur : Option Cur) (q : List Nat) : Prop where
  len : o.length = P.m
  le : ∀ c, c < P.m → -1073741824 ≤ gi o c ∧ gi o c ≤ noneV
  out : ∀ c, c < P.m → gi o c = noneV ∨ P.Der c (gi o c)
  heap : ∀ x, x ∈ L → ∃ c : Nat, x.1 = (c : Int) ∧ P.Der c x.2
  sea : ∀ c, c ∈ q → gi o c ≤ max (P.ht c) (-1073741824)
  cl : ∀ a, a < P.m → gi o a ≠ noneV → ((a : Int), gi o a) ∈ L ∨ (∃ k, cur = some k ∧ k.ok P o a) ∨ ∀ d, d ∈ P.nb a → gi o d ≤ max (P.ht d) (gi o a)
def lowO (P : SPar) (o : List Int) (d : Nat) (over : Int) : List Int := if max (P.ht d) over < gi o d then o.set d (max (P.ht d) over) else o
theorem lowO_length {P : SPar} {o : List Int} {d : Nat} {over : Int} : (lowO P o d over).length = o.length := by unfold lowO; split <;> simp
theorem lowO_get {P : SPar} {o : List Int} {d a : Nat} {over : Int} (hd : d < o.length) : gi (lowO P o d over) a = if a = d ∧ max (P.ht d) over < gi o d then max (P.ht d) over else gi o a := by
  unfold lowO
  by_cases h : max (P.ht d) over < gi o d
  · rw [if_pos h, gi_setI hd]
    by_cases h1 : a = d
    · rw [if_pos h1, if_pos ⟨h1, h⟩]
    · rw [if_neg h1, if_neg fun h' => h1 h'.1]
  · rw [if_neg h, if_neg fun h' => h h'.2]
theorem lowO_le {P : SPar} {o : List Int} {d : Nat} {over : Int} (hd : d < o.length) (a : Nat) : gi (lowO P o d over) a ≤ gi o a := by
  rw [lowO_get hd]
  split
  · rename_i h; rw [h.1]; omega
  · exact Int.le_refl _
theorem lowO_at {P : SPar} {o : List Int} {d : Nat} {over : Int} (hd : d < o.length) : gi (lowO P o d over) d ≤ max (P.ht d) over := by
  rw [lowO_get hd]
  split
  · exact Int.le_refl _
  · rename_i h
    simp only [true_and] at h
    omega
def ReachL (P : SPar) (o : List Int) (L L' : List (Int × Int)) (d : Nat) (over : Int) : Prop :=
  if max (P.ht d) over < gi o d then L'.length = L.length + 1 ∧ ∀ z, z ∈ L' ↔ z ∈ L ∨ z = ((d : Int), max (P.ht d) over) else L' = L
theorem SMid.reach {P : SPar} {o : List Int} {L L' : List (Int × Int)} {cur : Option Cur} {q : List Nat} {d : Nat} {over : Int} (hP : SParOk P) (h : SMid P o L cur q) (hd : d < P.m) (hder : P.Der d (max (P.ht d) over)) (hL : ReachL P o L L' d over) : SMid P (lowO P o d over) L' cur q := by
  have hlen := h.len
  have hdl : d < o.length := by omega
  have rg := hder.rng hP
  refine ⟨by rw [lowO_length]; exact hlen, fun c hc => ?_, fun c hc => ?_, fun x hx => ?_, fun c hc => Int.le_trans (lowO_le hdl c) (h.sea c hc), fun a ha hne => ?_⟩
  · have := h.le c hc
    rw [lowO_get hdl]
    split
    · unfold noneV; omega
    · exact this
  · rw [lowO_get hdl]
    split
    · rename_i h1; rw [h1.1]; exact .inr hder
    · exact h.out c hc
  · unfold ReachL at hL
    split at hL
    · rcases (hL.2 x).1 hx with h1 | rfl
      · exact h.heap x h1
      · exact ⟨d, rfl, hder⟩
    · rw [hL] at hx; exact h.heap x hx
  · by_cases hc : a = d ∧ max (P.ht d) over < gi o d
    · left
      unfold ReachL at hL
      rw [if_pos hc.2] at hL
      rw [lowO_get hdl, if_pos hc, hL.2, hc.1]
      exact .inr rfl
    · have e : gi (lowO P o d over) a = gi o a := by rw [lowO_get hdl, if_neg hc]
      rw [e] at hne ⊢
      rcases h.cl a ha hne with h1 | ⟨k, hk, h1, h2, h3⟩ | h1
      · left
        unfold ReachL at hL
        split at hL
        · exact (hL.2 _).2 (.inl h1)
        · rw [hL]; exact h1
      · exact .inr (.inl ⟨k, hk, h1, by rw [e]; exact h2, fun d' hd' => Int.le_trans (lowO_le hdl d') (h3 d' hd')⟩)
      · exact .inr (.inr fun d' hd' => Int.le_trans (lowO_le hdl d') (h1 d' hd'))
theorem SMid.doneOne {P : SPar} {o : List Int} {L : List (Int × Int)} {c : Nat} {v : Int} {dn : List Nat} {q : List Nat} {d : Nat} (h : SMid P o L (some ⟨c, v, dn⟩) q) (hd : gi o d ≤ max (P.ht d) v) : SMid P o L (some ⟨c, v, dn ++ [d]⟩) q := by
  refine ⟨h.len, h.le, h.out, h.heap, h.sea, fun a ha hne => ?_⟩
  rcases h.cl a ha hne with h1 | ⟨k, hk, h1, h2, h3⟩ | h1
  · exact .inl h1
  · cases hk
    refine .inr (.inl ⟨_, rfl, h1, h2, fun d' hd' => ?_⟩)
    rcases List.mem_append.1 hd' with h4 | h4
    · exact h3 d' h4
    · rw [List.mem_singleton] at h4; rw [h4]; exact hd
  · exact .inr (.inr h1)
theorem SMid.shut {P : SPar} {o : List Int} {L : List (Int × Int)} {c : Nat} {v : Int} {q : List Nat} (h : SMid P o L (some ⟨c, v, P.nb c⟩) q) : SMid P o L none q := by
  refine ⟨h.len, h.le, h.out, h.heap, h.sea, fun a ha hne => ?_⟩
  rcases h.cl a ha hne with h1 | ⟨k, hk, h1, h2, h3⟩ | h1
  · exact .inl h1
  · cases hk
    simp only at h1 h2 h3
    subst h1
    exact .inr (.inr (by rw [h2]; exact h3))
  · exact .inr (.inr h1)
theorem SMid.take {P : SPar} {o : List Int} {L L' : List (Int × Int)} {c : Nat} {v : Int} {q : List Nat} (h : SMid P o L none q) (h1 : ∀ z, z ∈ L → z = ((c : Int), v) ∨ z ∈ L') (h2 : ∀ z, z ∈ L' → z ∈ L) : SMid P o L' (some ⟨c, v, []⟩) q := by
  refine ⟨h.len, h.le, h.out, fun x hx => h.heap x (h2 x hx), h.sea, fun a ha hne => ?_⟩
  rcases h.cl a ha hne with h3 | ⟨k, hk, _⟩ | h3
  · rcases h1 _ h3 with h4 | h4
    · have e1 : a = c := by have := congrArg Prod.fst h4; simp only at this; omega
      have e2 : gi o a = v := congrArg Prod.snd h4
      exact .inr (.inl ⟨_, rfl, e1, e2, fun d hd => by cases hd⟩)
    · exact .inl h4
  · cases hk
  · exact .inr (.inr h3)
theorem SMid.seaOne {P : SPar} {o : List Int} {L : List (Int × Int)} {q : List Nat} {c : Nat} (h : SMid P o L none q) (hc : gi o c ≤ max (P.ht c) (-1073741824)) : SMid P o L none (q ++ [c]) := by
  refine ⟨h.len, h.le, h.out, h.heap, fun d hd => ?_, h.cl⟩
  rcases List.mem_append.1 hd with h1 | h1
  · exact h.sea d h1
  · rw [List.mem_singleton] at h1; rw [h1]; exact hc
theorem SMid.start {P : SPar} : SMid P (List.replicate P.m noneV) [] none [] := by
  have e : ∀ c, c < P.m → gi (List.replicate P.m noneV) c = noneV := fun c hc => by
    unfold gi; rw [List.getD_eq_getElem?_getD, List.getElem?_replicate, if_pos hc]; rfl
  refine ⟨by simp, fun c hc => ?_, fun c hc => .inl (e c hc), fun x hx => (by cases hx), fun c hc => (by cases hc), fun a ha hne => absurd (e a ha) hne⟩
  rw [e c hc]; unfold noneV; omega
structure SFin (P : SPar) (o : List Int) : Prop where
  len : o.length = P.m
  le : ∀ c, c < P.m → -1073741824 ≤ gi o c ∧ gi o c ≤ noneV
  out : ∀ c, c < P.m → gi o c = noneV ∨ P.Der c (gi o c)
  sea : ∀ c, c ∈ P.sea → gi o c ≤ max (P.ht c) (-1073741824)
  cl : ∀ a, a < P.m → gi o a ≠ noneV → ∀ d, d ∈ P.nb a → gi o d ≤ max (P.ht d) (gi o a)
theorem SMid.fin {P : SPar} {o : List Int} (h : SMid P o [] none P.sea) : SFin P o := by
  refine ⟨h.len, h.le, h.out, h.sea, fun a ha hne => ?_⟩
  rcases h.cl a ha hne with h1 | ⟨k, hk, _⟩ | h1
  · cases h1
  · cases hk
  · exact h1
theorem SFin.least {P : SPar} {o : List Int} (hP : SParOk P) (h : SFin P o) : ∀ {c : Nat} {v : Int}, P.Der c v → gi o c ≤ v
  | _, _, .base hc => h.sea _ hc
  | d, _, .step (c := c) (v := v) h1 h2 => by
    have ih := SFin.least hP h h1
    have hcm := h1.lt hP
    by_cases hn : gi o c = noneV
    · have := (h.le d (hP.nb _ hcm _ h2)).2
      omega
    · have := h.cl c hcm hn d h2
      omega
theorem SFin.mono {P P' : SPar} {o o' : List Int} (hP : SParOk P) (hP' : SParOk P') (hm : P.m = P'.m) (hs : P.sea = P'.sea) (hn : ∀ c, c < P.m → P.nb c = P'.nb c) (hh : ∀ c, c < P.m → P.ht c ≤ P'.ht c) (h : SFin P o) (h' : SFin P' o') {c : Nat} (hc : c < P.m) : gi o c ≤ gi o' c := by
  have key : ∀ {a : Nat} {v : Int}, P'.Der a v → ∃ u, u ≤ v ∧ P.Der a u := by
    intro a v hd
    induction hd with
    | @base c hc => exact ⟨_, by have := hh c (by rw [hm]; exact hP'.sea _ hc); omega, .base (hs ▸ hc)⟩
    | @step c d v h1 h2 ih =>
      obtain ⟨u, hu, hd⟩ := ih
      have hcm := hd.lt hP
      have hdm : d < P.m := by rw [hm]; exact hP'.nb _ (by omega) _ h2
      exact ⟨_, by have := hh d hdm; omega, .step hd (by rw [hn c hcm]; exact h2)⟩
  rcases h'.out c (by omega) with e | hd
  · rw [e]; exact (h.le c hc).2
  · obtain ⟨u, hu, hd'⟩ := key hd
    exact Int.le_trans (h.least hP hd') hu
theorem sum_set {f : Int → Nat} : ∀ {l : List Int} {i : Nat} {v : Int}, i < l.length → f v < f (gi l i) → ((l.set i v).map f).sum < (l.map f).sum
  | x :: l, 0, v, _, h => by
    simp only [List.set_cons_zero, List.map_cons, List.sum_cons]
    have : gi (x :: l) 0 = x := rfl
    rw [this] at h
    omega
  | x :: l, i + 1, v, hi, h => by
    have ih := sum_set (f := f) (l := l) (i := i) (v := v) (by simpa using hi) (by simpa [gi] using h)
    simp only [List.set_cons_succ, List.map_cons, List.sum_cons]
    omega
def potS (o : List Int) : Nat := (o.map fun x => (x + 1073741824).toNat).sum
theorem potS_rep (m : Nat) : potS (List.replicate m noneV) = m * 2147483648 := by
  unfold potS
  rw [List.map_replicate]
  simp [noneV]
theorem potS_low {P : SPar} {o : List Int} {d : Nat} {over : Int} (hd : d < o.length) (h0 : -1073741824 ≤ max (P.ht d) over) (hlt : max (P.ht d) over < gi o d) : potS (lowO P o d over) < potS o := by
  unfold lowO
  rw [if_pos hlt]
  exact sum_set hd (by omega)
structure SB where
  N0 : Nat
  N : Nat
  X5 : Nat
  X7 : Nat
  X8 : Nat
  OB : Nat
  hf : Value
structure SB.Ok (b : SB) : Prop where
  n5 : b.N0 ≤ b.X5 ∧ b.X5 < b.N
  n7 : b.N0 ≤ b.X7 ∧ b.X7 < b.N
  n8 : b.N0 ≤ b.X8 ∧ b.X8 < b.N
  nO : b.N0 ≤ b.OB ∧ b.OB < b.N
  n58 : b.X5 ≠ b.X8
  n5O : b.X5 ≠ b.OB
  n78 : b.X7 ≠ b.X8
  n7O : b.X7 ≠ b.OB
  n8O : b.X8 ≠ b.OB
def HtOk (g : Nat) (P : SPar) (A0 : Hp) (N0 : Nat) (hf : Value) : Prop :=
  ∀ (A : Hp) (d : Nat) (V : Value → Hp → Prop), (∀ z, z < N0 → A.get z = A0.get z) → N0 ≤ A.n → d < P.m → (∀ A' ht' is, Ext' A A' → (is = true ∧ ht' = P.ht d ∨ is = false ∧ P.ht d = 1073741824) → V (.tuple ⟨[.int .i64 ht', .bool is]⟩) A') → WV AP KL g hf [.int .i64 d] A V
structure SL (b : SB) (P : SPar) (A0 A : Hp) (o : List Int) (L : List (Int × Int)) : Prop where
  low : ∀ z, z < b.N0 → A.get z = A0.get z
  x5 : A.get b.X5 = some (.cells [b.hf] false)
  x7 : A.get b.X7 = some (.cells [rowS1 b.OB P.m] false)
  ob : A.get b.OB = some (.cells (ints o) false)
  hp : HpA b.N b.X8 A L
  nn : b.N ≤ A.n
theorem SL.ext {b : SB} {P : SPar} {A0 A A' : Hp} {o : List Int} {L : List (Int × Int)} (hb : b.Ok) (h : SL b P A0 A o L) (he : Ext' A A') : SL b P A0 A' o L := by
  have := hb.n5
  have := h.nn
  have := he.1
  exact ⟨fun z hz => by rw [he.2 z (by omega), h.low z hz], he.get h.x5, he.get h.x7, he.get h.ob, h.hp.ext he, by omega⟩
structure SUp (b : SB) (A A' : Hp) : Prop where
  n : A.n ≤ A'.n
  o : ∀ z, z < A.n → z ≠ b.X8 → z ≠ b.OB → ¬ HeB A b.X8 z → A'.get z = A.get z
  b : ∀ z, z < A.n → HeB A' b.X8 z → HeB A b.X8 z
theorem SUp.of {b : SB} {A A' : Hp} (h : Ext' A A') (hX : b.X8 < A.n) : SUp b A A' := ⟨h.1, fun z hz _ _ _ => h.2 z hz, (HUp.of h hX).b⟩
theorem SUp.heap {b : SB} {A A' : Hp} (h : HUp b.X8 A A') : SUp b A A' := ⟨h.n, fun z hz h1 _ h3 => h.o z hz h1 h3, h.b⟩
theorem SUp.row {b : SB} {A A' : Hp} (hn : A'.n = A.n) (hO : b.X8 ≠ b.OB) (ho : ∀ z, z ≠ b.OB → A'.get z = A.get z) : SUp b A A' := ⟨by omega, fun z _ _ h2 _ => ho z h2, fun z _ hB => by
  obtain ⟨sv, h1, h2⟩ := hB
  exact ⟨sv, by rw [← ho _ hO]; exact h1, h2⟩⟩
theorem SUp.trans {b : SB} {A A' A'' : Hp} (h : SUp b A A') (h' : SUp b A' A'') : SUp b A A'' :=
  ⟨Nat.le_trans h.n h'.n, fun z hz h1 h2 hb => (h'.o z (Nat.lt_of_lt_of_le hz h.n) h1 h2 fun hb' => hb (h.b z hz hb')).trans (h.o z hz h1 h2 hb), fun z hz hb => h.b z hz (h'.b z (Nat.lt_of_lt_of_le hz h.n) hb)⟩
section
variable {g : Nat} {rd : Option Nat} {T : List Value} {D : List Nat} {A : Hp} {Q : Ex → St → Prop} {V : Value → Hp → Prop}
theorem w276 {b : SB} {P : SPar} {A0 : Hp} {o : List Int} {L : List (Int × Int)} {d : Nat} {over : Int} (hb : b.Ok) (hP : SParOk P) (hh : HtOk g P A0 b.N0 b.hf) (h : SL b P A0 A o L) (hlen : o.length = P.m) (hle : ∀ c, c < P.m → gi o c ≤ 1073741824) (hm : P.m < 1000) (hd : d < P.m) (ho : -1073741824 ≤ over ∧ over ≤ 1073741824) (hL : L.length + 1 < 1000000000000) (hg : g ≤ b.N0)
    (hV : ∀ v A' L', SL b P A0 A' (lowO P o d over) L' → ReachL P o L L' d over → SUp b A A' → V v A') : WF AP KL g 276 [.int .i64 d, .int .i64 over, .pointer (some ⟨b.X5, 0, none⟩), .pointer (some ⟨b.X7, 0, none⟩), .pointer (some ⟨b.X8, 0, none⟩)] A V := by
  rw [WF_body (show KL 276 = none from rfl) (show AP 276 = some F276 from rfl)]
  have k5 := hb.n5
  have k7 := hb.n7
  have k8 := hb.n8
  have kO := hb.nO
  have k58 := hb.n58
  have k5O := hb.n5O
  have k78 := hb.n78
  have k7O := hb.n7O
  have k8O := hb.n8O
  have hnn := h.nn
  have hht := hP.ht d hd
  obtain ⟨m, hm'⟩ : ∃ m, m = P.m := ⟨_, rfl⟩
  obtain ⟨ht, hht'⟩ : ∃ ht, ht = P.ht d := ⟨_, rfl⟩
  rw [← hht'] at hht
  simp (disch := as_aux_lemma => first | omega | simp only [hDs] <;> omega | simp [isCell]) [hRs, takeMarks, resA, resAll, resOne, Value.cells, F276, h.x5]
  refine hh A d _ h.low (by omega) hd fun A1 ht' is e1 his => ?_
  have n1 := e1.1
  have h1 := h.ext hb e1
  have hod := hle d hd
  rcases his with ⟨rfl, rfl⟩ | ⟨rfl, hbar⟩
  rotate_left
  · have hlow : lowO P o d over = o := by unfold lowO; rw [if_neg (by omega)]
    simp (disch := as_aux_lemma => first | omega | simp only [hDs] <;> omega | simp [isCell]) [hRs, takeMarks, resA, resAll, resOne, Value.cells]
    refine hV _ A1 L (by rw [hlow]; exact h1) ?_ (SUp.of e1 (by omega))
    unfold ReachL
    rw [if_neg (by omega)]
  rw [← hht']
  have x7 := h1.x7
  unfold rowS1 at x7
  rw [← hm'] at x7 hd hlen
  have hdI : (d : Int) < m := by omega
  have hp := ints_get (l := o) (o := d) (by omega)
  have hU1 := SUp.of (b := b) e1 (by omega)
  by_cases hlt : max ht over < gi o d
  · have st1 : storeB (some (.cells (ints o) false)) g A1 b.OB d [.int .i64 (max ht over)] 1 = some (undef, A1.set b.OB (some (.cells (ints (o.set d (max ht over))) false))) := by
      have := storeB_cells (A := A1) (g := g) (k := b.OB) (o := d) (size := 1) (cs := ints o) (vs := [.int .i64 (max ht over)]) rfl (by omega) (by rw [ints_length]; omega) rfl
      rwa [setRange_intsI (by omega)] at this
    obtain ⟨A2, hA2⟩ : ∃ A2, A2 = A1.set b.OB (some (.cells (ints (o.set d (max ht over))) false)) := ⟨_, rfl⟩
    rw [← hA2] at st1
    have hA2n : A2.n = A1.n := by rw [hA2]; rfl
    have hOn := Hp.lt_of_get h1.ob
    have o2 : ∀ z, z ≠ b.OB → A2.get z = A1.get z := fun z hz => by rw [hA2]; exact get_set_ne hOn hz
    have x72 := (o2 b.X7 k7O).trans x7
    have ob2 : A2.get b.OB = some (.cells (ints (o.set d (max ht over))) false) := by rw [hA2]; exact get_set_same h1.ob
    have hp2 := ints_get (l := o.set d (max ht over)) (o := d) (by rw [List.length_set]; omega)
    rw [gi_setI (by omega), if_pos rfl] at hp2
    have hH2 : HpA b.N b.X8 A2 L := by
      obtain ⟨sv, s1, s2⟩ := h1.hp.e
      exact ⟨⟨sv, (o2 _ k8O).trans s1, s2.keep fun z hz => o2 z (by have := (s2.blk hz).1; omega)⟩, h1.hp.lt⟩
    simp (disch := as_aux_lemma => first | omega | simp only [hDs] <;> omega | simp [isCell]) [hRs, takeMarks, resA, resAll, resOne, Value.cells, x7, h1.ob, hdI, idxSA_ok, hp, hlt, st1, x72, ob2, hp2, fillA, setRange]
    refine w277 hH2 (by omega) (by omega) hL fun v A3 L' hl hmem hH3 hU3 => ?_
    simp (disch := as_aux_lemma => first | omega | simp only [hDs] <;> omega | simp [isCell]) [hRs, takeMarks, resA, resAll, resOne, Value.cells]
    have hlow : lowO P o d over = o.set d (max ht over) := by unfold lowO; rw [← hht', if_pos hlt]
    have hnB : ∀ z, z < b.N → ¬ HeB A2 b.X8 z := fun z hz hB => by
      obtain ⟨sv, s1, s2⟩ := hB
      obtain ⟨sv', q1, q2⟩ := hH2.e
      rw [q1] at s1
      cases s1
      have := (q2.blk s2).1
      omega
    refine hV _ A3 L' ⟨fun z hz => ?_, ?_, ?_, ?_, hH3, ?_⟩ ?_ ((hU1.trans (SUp.row (by omega) k8O o2)).trans (SUp.heap hU3))
    · rw [hU3.o z (by omega) (by omega) (hnB z (by omega)), o2 z (by omega), h1.low z hz]
    · rw [hU3.o _ (by omega) k58 (hnB _ (by omega)), o2 _ k5O]; exact h1.x5
    · rw [hU3.o _ (by omega) k78 (hnB _ (by omega)), o2 _ k7O]; exact h1.x7
    · rw [hU3.o _ (by omega) (Ne.symm k8O) (hnB _ (by omega)), hlow]; exact ob2
    · have := hU3.n; omega
    · unfold ReachL
      rw [← hht', if_pos hlt]
      exact ⟨hl, hmem⟩
  · have hlow : lowO P o d over = o := by unfold lowO; rw [← hht', if_neg hlt]
    simp (disch := as_aux_lemma => first | omega | simp only [hDs] <;> omega | simp [isCell]) [hRs, takeMarks, resA, resAll, resOne, Value.cells, x7, h1.ob, hdI, idxSA_ok, hp, hlt]
    refine hV _ A1 L (by rw [hlow]; exact h1) ?_ hU1
    unfold ReachL
    rw [← hht', if_neg hlt]
end
def asg269 : ACode := (.ops [
oM 13 40])
def body269r : ACode := (.block 5
 (.ops [
oL 41 9,
oM 42 13,
oF 43 12 1,
oL 44 43,
oP 45 (.call (.t 41) [.t 42, .t 44] false)]))
structure SafeB (b : SB) (A : Hp) (z : Nat) (k : ABlk) : Prop where
  at_ : A.get z = some k
  lo : b.N ≤ z
  no : ¬ HeB A b.X8 z
theorem SafeB.up {b : SB} {A A' : Hp} {z : Nat} {k : ABlk} (hb : b.Ok) (h : SafeB b A z k) (u : SUp b A A') : SafeB b A' z k := by
  have h8 := hb.n8
  have hO := hb.nO
  have hl := h.lo
  have hz := Hp.lt_of_get h.at_
  exact ⟨(u.o z hz (by omega) (by omega) h.no).trans h.at_, hl, fun hB => h.no (u.b z hz hB)⟩
theorem SafeB.new {b : SB} {A A' : Hp} {z : Nat} {k : ABlk} {L : List (Int × Int)} (hp : HpA b.N b.X8 A L) (hN : b.N ≤ A.n) (he : Ext' A A') (hz : A.n ≤ z) (hk : A'.get z = some k) : SafeB b A' z k := by
  refine ⟨hk, by omega, fun hB => ?_⟩
  obtain ⟨sv, s1, s2⟩ := hB
  obtain ⟨sv', q1, q2⟩ := hp.e
  rw [he.get q1] at s1
  cases s1
  have := (q2.blk s2).2
  omega
theorem SafeB.set {b : SB} {A : Hp} {z : Nat} {k : ABlk} (hb : b.Ok) (h : SafeB b A z k) (k' : ABlk) : SafeB b (A.set z (some k')) z k' := by
  refine ⟨get_set_same h.at_, h.lo, fun hB => h.no ?_⟩
  obtain ⟨sv, s1, s2⟩ := hB
  have h8 := hb.n8
  have hl := h.lo
  rw [get_set_ne (Hp.lt_of_get h.at_) (by omega)] at s1
  exact ⟨sv, s1, s2⟩
theorem SafeB.set_ne {b : SB} {A : Hp} {z y : Nat} {k ky : ABlk} {k' : Option ABlk} (hb : b.Ok) (hy : SafeB b A y ky) (hz : SafeB b A z k) (hyz : y ≠ z) : SafeB b (A.set z k') y ky := by
  have h8 := hb.n8
  have hl := hz.lo
  refine ⟨(get_set_ne (Hp.lt_of_get hz.at_) hyz).trans hy.at_, hy.lo, fun hB => hy.no ?_⟩
  obtain ⟨sv, s1, s2⟩ := hB
  rw [get_set_ne (Hp.lt_of_get hz.at_) (by omega)] at s1
  exact ⟨sv, s1, s2⟩
theorem SL.set {b : SB} {P : SPar} {A0 A : Hp} {o : List Int} {L : List (Int × Int)} {z : Nat} {k : ABlk} {k' : Option ABlk} (hb : b.Ok) (h : SL b P A0 A o L) (hz : SafeB b A z k) : SL b P A0 (A.set z k') o L := by
  have h5 := hb.n5
  have h7 := hb.n7
  have h8 := hb.n8
  have hO := hb.nO
  have hl := hz.lo
  have e : ∀ y, y ≠ z → (A.set z k').get y = A.get y := fun y hy => get_set_ne (Hp.lt_of_get hz.at_) hy
  refine ⟨fun y hy => (e y (by omega)).trans (h.low y hy), (e _ (by omega)).trans h.x5, (e _ (by omega)).trans h.x7, (e _ (by omega)).trans h.ob, ?_, h.nn⟩
  obtain ⟨sv, s1, s2⟩ := h.hp.e
  exact ⟨⟨sv, (e _ (by omega)).trans s1, s2.keep fun y hy => e y fun hyz => hz.no ⟨sv, s1, by rw [← hyz]; exact hy⟩⟩, h.hp.lt⟩
structure GoR (b : SB) (P : SPar) (A0 : Hp) (K0 : Nat) (q : List Nat) (F : List (Nat × ABlk)) (k : Option Cur) (A : Hp) : Prop where
  e : ∃ o L, SL b P A0 A o L ∧ SMid P o L k q ∧ 2 * potS o + L.length ≤ K0
  F : ∀ x, x ∈ F → SafeB b A x.1 x.2
theorem GoR.ext {b : SB} {P : SPar} {A0 A A' : Hp} {K0 : Nat} {q : List Nat} {F : List (Nat × ABlk)} {k : Option Cur} (hb : b.Ok) (h : GoR b P A0 K0 q F k A) (he : Ext' A A') : GoR b P A0 K0 q F k A' := by
  obtain ⟨o, L, h1, h2, h3⟩ := h.e
  have h8 := hb.n8
  have := h1.nn
  exact ⟨⟨o, L, h1.ext hb he, h2, h3⟩, fun x hx => (h.F x hx).up hb (SUp.of he (by omega))⟩
theorem GoR.nn {b : SB} {P : SPar} {A0 A : Hp} {K0 : Nat} {q : List Nat} {F : List (Nat × ABlk)} {k : Option Cur} (h : GoR b P A0 K0 q F k A) : b.N ≤ A.n := by
  obtain ⟨o, L, h1, _⟩ := h.e
  exact h1.nn
theorem GoR.new {b : SB} {P : SPar} {A0 A A' : Hp} {K0 : Nat} {q : List Nat} {F : List (Nat × ABlk)} {k : Option Cur} {z : Nat} {kz : ABlk} (h : GoR b P A0 K0 q F k A) (he : Ext' A A') (hz : A.n ≤ z) (hk : A'.get z = some kz) : SafeB b A' z kz := by
  obtain ⟨o, L, h1, _⟩ := h.e
  exact SafeB.new h1.hp h1.nn he hz hk
def f276 (b : SB) : Value := .func (.func 276) ⟨[]⟩ ⟨[.pointer (some ⟨b.X5, 0, none⟩), .pointer (some ⟨b.X7, 0, none⟩), .pointer (some ⟨b.X8, 0, none⟩)]⟩
section
variable {g : Nat} {rd : Option Nat} {T : List Value} {D : List Nat} {A : Hp} {Q : Ex → St → Prop} {V : Value → Hp → Prop}
theorem y269 {b : SB} {P : SPar} {A0 : Hp} {K0 : Nat} {q : List Nat} {F : List (Nat × ABlk)} {c d : Nat} {v : Int} {dn : List Nat} {T1 : List Value} {X9 B12 Lr : Nat} (hb : b.Ok) (hP : SParOk P) (hh : HtOk g P A0 b.N0 b.hf) (hm : P.m < 1000) (hK : K0 + 1 < 1000000000000) (hg : g ≤ b.N0)
    (h : GoR b P A0 K0 q F (some ⟨c, v, dn⟩) A) (hd : d ∈ P.nb c) (hder : P.Der c v) (h9 : (X9, ABlk.cells [f276 b] false) ∈ F) (h12 : (B12, ABlk.cells [.int .i64 c, .int .i64 v] false) ∈ F) (hLr : SafeB b A Lr (recL T1 [40] asg269 body269r)) (hFL : ∀ x, x ∈ F → x.1 ≠ Lr)
    (t9 : tget T1 9 = .pointer (some ⟨X9, 0, none⟩)) (t12 : tget T1 12 = .pointer (some ⟨B12, 0, none⟩))
    (hV : ∀ A', GoR b P A0 K0 q F (some ⟨c, v, dn ++ [d]⟩) A' → SafeB b A' Lr (recL T1 [40] asg269 body269r) → V (.bool true) A') :
    WV AP KL g (.func (.yield Lr) #[] #[]) [.int .i64 d] A V := by
  obtain ⟨o, L, h1, h2, h3⟩ := h.e
  have n5 := hb.n5
  have hnn := h1.nn
  have hl := hLr.lo
  refine WV_yield hLr.at_ (by omega) ?_
  obtain ⟨B, hB⟩ : ∃ B, B = A.set Lr (some (.loop { state := .busy, pending := none, tmps := T1, params := [40], assign := .ops [oM 13 40], body := body269r })) := ⟨_, rfl⟩
  rw [← hB]
  have hBS : SL b P A0 B o L := by rw [hB]; exact h1.set hb hLr
  have hBL : SafeB b B Lr (.loop { state := .busy, pending := none, tmps := T1, params := [40], assign := .ops [oM 13 40], body := body269r }) := by rw [hB]; exact hLr.set hb _
  have hBF : ∀ x, x ∈ F → SafeB b B x.1 x.2 := fun x hx => by rw [hB]; exact (h.F x hx).set_ne hb hLr (hFL x hx)
  have b9 := (hBF _ h9).at_
  have b12 := (hBF _ h12).at_
  unfold f276 at b9
  have hr := hder.rng hP
  simp (disch := as_aux_lemma => first | omega | simp only [hDs] <;> omega | simp [isCell]) [hRs, takeMarks, resA, resAll, resOne, Value.cells, body269r, t9, t12, b9, b12]
  refine w276 hb hP hh hBS h2.len (fun c hc => (h2.le c hc).2) hm (hP.nb c (hder.lt hP) d hd) (by omega) (by omega) hg fun v' A' L' k1 k2 k3 => ?_
  have hLr' := hBL.up hb k3
  have hder' := hder.step hd
  have hdm := hder'.lt hP
  simp (disch := as_aux_lemma => first | omega | simp only [hDs] <;> omega | simp [isCell]) [hRs, takeMarks, resA, resAll, resOne, Value.cells, RoundQ, hLr'.at_]
  refine ⟨rfl, hV _ ⟨⟨lowO P o d v, L', k1.set hb hLr', (h2.reach hP hdm hder' k2).doneOne (lowO_at (by rw [h2.len]; exact hdm)), ?_⟩, fun x hx => ((hBF x hx).up hb k3).set_ne hb hLr' (hFL x hx)⟩ (hLr'.set hb _)⟩
  by_cases hlt : max (P.ht d) v < gi o d
  · have := potS_low (P := P) (o := o) (d := d) (over := v) (by rw [h2.len]; exact hdm) (by omega) hlt
    unfold ReachL at k2
    rw [if_pos hlt] at k2
    omega
  · unfold ReachL at k2
    rw [if_neg hlt] at k2
    unfold lowO
    rw [if_neg hlt, k2]
    exact h3
end
theorem GoR.mono {b : SB} {P : SPar} {A0 A : Hp} {K0 : Nat} {q : List Nat} {F F' : List (Nat × ABlk)} {k : Option Cur} (h : GoR b P A0 K0 q F k A) (hF : ∀ x, x ∈ F' → x ∈ F) : GoR b P A0 K0 q F' k A := ⟨h.e, fun x hx => h.F x (hF x hx)⟩
section
variable {g : Nat} {rd : Option Nat} {T : List Value} {D : List Nat} {A : Hp} {Q : Ex → St → Prop} {V : Value → Hp → Prop}
theorem nbrs_back {w h : Int} {c : Nat} {l : List Int} (hw : 1 ≤ w) (hl : ∀ x, x ∈ l → x ∈ nbrs w h c) : (l.map Int.toNat).map (fun (x : Nat) => (x : Int)) = l := by
  rw [List.map_map]
  conv => rhs; rw [← List.map_id l]
  apply List.map_congr_left
  intro x hx
  have := (nbrs_range hw (hl x hx)).1
  simp; omega
theorem range269 {b : SB} {P : SPar} {A0 C0 : Hp} {K0 : Nat} {q : List Nat} {F : List (Nat × ABlk)} {c : Nat} {v w h s : Int} {sl : Value} {T1 : List Value} {X9 B12 gb cb : Nat} (hb : b.Ok) (hP : SParOk P) (hh : HtOk g P A0 b.N0 b.hf) (hm : P.m < 1000) (hK : K0 + 1 < 1000000000000) (hg : g ≤ b.N0)
    (hw : 1 ≤ w ∧ w ≤ 24) (hh' : 1 ≤ h ∧ h ≤ 24) (hcw : (c : Int) < w * h) (hnb : P.nb c = (nbrs w h c).map Int.toNat)
    (hR : GoR b P A0 K0 q F (some ⟨c, v, []⟩) C0) (hder : P.Der c v) (h9 : (X9, ABlk.cells [f276 b] false) ∈ F) (h12 : (B12, ABlk.cells [.int .i64 c, .int .i64 v] false) ∈ F) (hgb : (gb, ABlk.cells [.int .i64 w, .int .i64 h, .int .i64 s, sl] false) ∈ F) (hcb : (cb, ABlk.cells [.int .i64 c] false) ∈ F)
    (t9 : tget T1 9 = .pointer (some ⟨X9, 0, none⟩)) (t12 : tget T1 12 = .pointer (some ⟨B12, 0, none⟩)) (t39 : tget T1 39 = .func (.func 114) ⟨[]⟩ ⟨[.pointer (some ⟨cb, 0, none⟩), .pointer (some ⟨gb, 0, none⟩)]⟩)
    (hQ : ∀ A', GoR b P A0 K0 q ((C0.n, .marks) :: F) none A' → Q .normal ⟨T1, C0.n :: D, A'⟩) :
    W AP KL g none (.rangeF (.t 39) [40] asg269 body269r) ⟨T1, D, C0⟩ Q := by
  refine W_range (h := 114) (first := []) (captured := [.pointer (some ⟨cb, 0, none⟩), .pointer (some ⟨gb, 0, none⟩)]) t39 ?_
  rw [WF_body (show KL 114 = none from rfl) (show AP 114 = some F114 from rfl)]
  have n5 := hb.n5
  have hnn := hR.nn
  obtain ⟨C, hC⟩ : ∃ C, C = (C0.push .marks).push (recL T1 [40] asg269 body269r) := ⟨_, rfl⟩
  rw [← hC]
  have hCn : C.n = C0.n + 2 := by rw [hC]; rfl
  have eC : Ext' C0 C := by rw [hC]; exact (Ext'.push C0 _).trans (Ext'.push _ _)
  have hCm : C.get C0.n = some .marks := by rw [hC, get_push_old (by simp), get_push_new]
  have hCL : C.get (C0.n + 1) = some (recL T1 [40] asg269 body269r) := by rw [hC, get_push_eq (by simp)]
  have hRC := hR.ext hb eC
  have hcb' := (hRC.F _ hcb).at_
  have hgb' := (hRC.F _ hgb).at_
  obtain ⟨⟨p1, p2⟩, p3, p4⟩ := cell_parts hw.1 (show (0 : Int) ≤ (c : Int) by omega) hcw
  have z4 : zeros 4 [Value.int .i64 0, .int .i64 0] = [.int .i64 0, .int .i64 0, .int .i64 0, .int .i64 0, .int .i64 0, .int .i64 0, .int .i64 0, .int .i64 0] := rfl
  have e1 : wr .i64 ((c : Int).tdiv w) = (c : Int).tdiv w := wrId (by omega) (by omega)
  have c24 : w * h ≤ 24 * 24 := Int.mul_le_mul hw.2 hh'.2 (by omega) (by omega)
  have e2 : wr .i64 ((c : Int).tmod w) = (c : Int).tmod w := wrId (by omega) (by omega)
  have e1' : wr .i64 ((c : Int) / w) = (c : Int) / w := by rwa [Int.tdiv_eq_ediv_of_nonneg (by omega)] at e1
  have hcbn := Hp.lt_of_get hcb'
  have hgbn := Hp.lt_of_get hgb'
  simp (disch := as_aux_lemma => first | omega | simp only [hDs] <;> omega | simp [isCell]) [hRs, takeMarks, resA, resAll, resOne, Value.cells, F114, hcb', hgb', binA_rem (show w ≠ 0 by omega), binA_quo (show w ≠ 0 by omega), e1, e2, slitA, fillA, setRange, z4]
  obtain ⟨B, hB⟩ : ∃ B, B = C.push (.cells (ints dirI) false) := ⟨_, rfl⟩
  have hB' := hB.symm
  simp only [dirI, ints, List.map_cons, List.map_nil] at hB'
  rw [hB']
  have eB : Ext' C B := by rw [hB]; exact Ext'.push C _
  have hBr : B.get C.n = some (.cells (ints dirI) false) := by rw [hB, get_push_new]
  obtain ⟨F', hF'⟩ : ∃ F', F' = (C.n, ABlk.cells (ints dirI) false) :: (C0.n, .marks) :: F := ⟨_, rfl⟩
  have hF : GoR b P A0 K0 q F' (some ⟨c, v, []⟩) B := by
    refine ⟨(hRC.ext hb eB).e, fun x hx => ?_⟩
    rw [hF'] at hx
    rcases List.mem_cons.1 hx with rfl | hx
    · exact hRC.new eB (Nat.le_refl _) hBr
    · rcases List.mem_cons.1 hx with rfl | hx
      · exact hR.new (eC.trans eB) (Nat.le_refl _) (eB.get hCm)
      · exact (hRC.ext hb eB).F x hx
  have hFr : ∀ x, x ∈ F' → x.1 ≠ C0.n + 1 := fun x hx => by
    rw [hF'] at hx
    rcases List.mem_cons.1 hx with rfl | hx
    · simp only; omega
    · rcases List.mem_cons.1 hx with rfl | hx
      · simp only; omega
      · have := Hp.lt_of_get (hR.F x hx).at_; omega
  have hLr : SafeB b B (C0.n + 1) (recL T1 [40] asg269 body269r) := hR.new (eC.trans eB) (by omega) (eB.get hCL)
  have m9 : (X9, ABlk.cells [f276 b] false) ∈ F' := by rw [hF']; exact List.mem_cons_of_mem _ (List.mem_cons_of_mem _ h9)
  have m12 : (B12, ABlk.cells [.int .i64 c, .int .i64 v] false) ∈ F' := by rw [hF']; exact List.mem_cons_of_mem _ (List.mem_cons_of_mem _ h12)
  have mgb : (gb, ABlk.cells [.int .i64 w, .int .i64 h, .int .i64 s, sl] false) ∈ F' := by rw [hF']; exact List.mem_cons_of_mem _ (List.mem_cons_of_mem _ hgb)
  have mr : (C.n, ABlk.cells (ints dirI) false) ∈ F' := by rw [hF']; exact List.mem_cons_self ..
  refine loop114 (P := fun dn A => GoR b P A0 K0 q F' (some ⟨c, v, dn.map Int.toNat⟩) A ∧ SafeB b A (C0.n + 1) (recL T1 [40] asg269 body269r)) (L := C0.n + 1) (G := gb) (R := C.n) (w := w) (h := h) (c := c) (s := s) (sl := sl) hw hh' ⟨p1, p2⟩ ⟨p3, p4⟩
    (fun dn A hPA => ⟨(hPA.1.F _ mgb).at_, (hPA.1.F _ mr).at_, by have := hPA.1.nn; omega⟩) (fun dn A bl hPA => ⟨hPA.1.ext hb (Ext'.push A bl), hPA.2.up hb (SUp.of (Ext'.push A bl) (by have := hPA.1.nn; have := hb.n8; omega))⟩) (fun dn d A V _ hPA hd hV => ?_) (fun T' A' hPA => ?_) 4 0 (by omega) ⟨hF, hLr⟩ ?_ ?_ ?_ ?_ ?_ ?_ ?_
  · obtain ⟨d0, d1⟩ := nbrs_range hw.1 hd
    obtain ⟨dN, rfl⟩ : ∃ dN : Nat, d = (dN : Int) := ⟨d.toNat, by omega⟩
    refine y269 (c := c) (v := v) hb hP hh hm hK hg hPA.1 (d := dN) ?_ hder m9 m12 hPA.2 hFr t9 t12 fun A' k1 k2 => hV A' ⟨?_, k2⟩
    · rw [hnb]
      exact List.mem_map.2 ⟨_, hd, by simp⟩
    · rw [List.map_append]; exact k1
  · obtain ⟨o, L, k1, k2, k3⟩ := hPA.1.e
    have hL := hPA.2.at_
    simp (disch := as_aux_lemma => first | omega | simp only [hDs] <;> omega | simp [isCell]) [hRs, takeMarks, resA, resAll, resOne, Value.cells, EndQ, hL, recL]
    refine hQ _ ⟨⟨o, L, k1.set hb hPA.2, ?_, k3⟩, fun x hx => ?_⟩
    · rw [← hnb] at k2
      exact k2.shut
    · have hx' : x ∈ F' := by rw [hF']; exact List.mem_cons_of_mem _ hx
      exact (hPA.1.F x hx').set_ne hb hPA.2 (hFr x hx')
  all_goals simp [e1']
end
theorem takeMarks_all : ∀ (D : List Nat) (A : Hp), D.Nodup → (∀ x, x ∈ D → A.get x = some .marks) → ∃ A', takeMarks A D = some A' ∧ A'.n = A.n ∧ ∀ x, x ∉ D → A'.get x = A.get x
  | [], A, _, _ => ⟨A, rfl, rfl, fun _ _ => rfl⟩
  | y :: D, A, hD, h => by
    have hy := h y (by simp)
    have hyn := Hp.lt_of_get hy
    obtain ⟨hyD, hD'⟩ := List.nodup_cons.1 hD
    obtain ⟨A', h1, h2, h3⟩ := takeMarks_all D (A.set y none) hD' (fun x hx => by rw [get_set_ne hyn (fun e => hyD (e ▸ hx))]; exact h x (by simp [hx]))
    refine ⟨A', by simp only [takeMarks, hy]; exact h1, h2, fun x hx => ?_⟩
    simp at hx
    rw [h3 x hx.2, get_set_ne hyn hx.1]
def fD (D : List Nat) (F : List (Nat × ABlk)) : List (Nat × ABlk) := D.map (fun x => (x, ABlk.marks)) ++ F
section
variable {g : Nat} {rd : Option Nat} {T : List Value} {D : List Nat} {A : Hp} {Q : Ex → St → Prop} {V : Value → Hp → Prop}
theorem loop269b {b : SB} {P : SPar} {A0 : Hp} {q : List Nat} {w h s : Int} {sl : Value} {X9 X3 : Nat} (hb : b.Ok) (hP : SParOk P) (hh : HtOk g P A0 b.N0 b.hf) (hm : P.m < 1000) (hg : g ≤ b.N0)
    (hw : 1 ≤ w ∧ w ≤ 24) (hh' : 1 ≤ h ∧ h ≤ 24) (hcw : (P.m : Int) = w * h) (hnb : ∀ c, c < P.m → P.nb c = (nbrs w h c).map Int.toNat) (hX3 : A0.get X3 = some (.cells [.int .i64 w, .int .i64 h, .int .i64 s, sl] false)) (h3N : X3 < b.N0)
    (hQ : ∀ T' A' D' K0, GoR b P A0 K0 q (fD D' [(X9, ABlk.cells [f276 b] false)]) none A' → D'.Nodup → (∃ o, SL b P A0 A' o [] ∧ SMid P o [] none q) → tget T' 7 = .pointer (some ⟨b.X7, 0, none⟩) → Q (.exit 2) ⟨T', D', A'⟩) :
    ∀ (K0 : Nat) {T : List Value} {A : Hp} {D : List Nat}, K0 + 1 < 1000000000000 → GoR b P A0 K0 q (fD D [(X9, ABlk.cells [f276 b] false)]) none A → D.Nodup → tget T 3 = .pointer (some ⟨X3, 0, none⟩) → tget T 7 = .pointer (some ⟨b.X7, 0, none⟩) → tget T 8 = .pointer (some ⟨b.X8, 0, none⟩) → tget T 9 = .pointer (some ⟨X9, 0, none⟩) →
      W AP KL g none (.loop body269b) ⟨T, D, A⟩ Q := by
  intro K0
  induction K0 with
  | zero =>
    intro T A D hK hG hD t3 t7 t8 t9
    obtain ⟨o, L, h1, h2, h3⟩ := hG.e
    have hl : L.length = 0 := by omega
    have hL : L = [] := List.eq_nil_of_length_eq_zero hl
    subst hL
    obtain ⟨sv, s1, s2⟩ := h1.hp.e
    have s3 := s2.len
    unfold bef275 at s1
    rw [W_loop]
    simp (disch := as_aux_lemma => first | omega | simp only [hDs] <;> omega | simp [isCell]) [hRs, takeMarks, resA, resAll, resOne, Value.cells, body269b, t8, s1, s3]
    exact hQ _ _ _ _ hG hD ⟨o, h1, h2⟩ (by simp [t7])
  | succ K0 ih =>
    intro T A D hK hG hD t3 t7 t8 t9
    obtain ⟨o, L, h1, h2, h3⟩ := hG.e
    obtain ⟨sv, s1, s2⟩ := h1.hp.e
    have s3 := s2.len
    unfold bef275 at s1
    by_cases hl : L.length = 0
    · have hL : L = [] := List.eq_nil_of_length_eq_zero hl
      subst hL
      rw [W_loop]
      simp (disch := as_aux_lemma => first | omega | simp only [hDs] <;> omega | simp [isCell]) [hRs, takeMarks, resA, resAll, resOne, Value.cells, body269b, t8, s1, s3]
      exact hQ _ _ _ _ hG hD ⟨o, h1, h2⟩ (by simp [t7])
    have h8 := hb.n8
    rw [W_loop]
    simp (disch := as_aux_lemma => first | omega | simp only [hDs] <;> omega | simp [isCell]) [hRs, takeMarks, resA, resAll, resOne, Value.cells, body269b, t8, s1, s3, show (0 : Int) < L.length by omega, show 0 < L.length by omega]
    refine w278 h1.hp h1.nn (by omega) (by omega) (by omega) fun A1 L' x y m1 m2 m3 m4 m5 m6 => ?_
    obtain ⟨c, hc, hder⟩ := h2.heap _ m1
    simp only at hc hder
    subst hc
    have hcm := hder.lt hP
    have u1 : SUp b A A1 := SUp.heap m6
    have hnn := h1.nn
    have k5 := hb.n5
    have k7 := hb.n7
    have kO := hb.nO
    have hnB : ∀ z, z < b.N → ¬ HeB A b.X8 z := fun z hz hB => by
      obtain ⟨sv', q1, q2⟩ := hB
      obtain ⟨sv2, q3, q4⟩ := h1.hp.e
      rw [q3] at q1
      cases q1
      have := (q4.blk q2).1
      omega
    have sl1 : SL b P A0 A1 o L' := by
      refine ⟨fun z hz => ?_, ?_, ?_, ?_, m5, by have := m6.n; omega⟩
      · rw [m6.o z (by omega) (by omega) (hnB z (by omega)), h1.low z hz]
      · rw [m6.o _ (by omega) hb.n58 (hnB _ (by omega))]; exact h1.x5
      · rw [m6.o _ (by omega) hb.n78 (hnB _ (by omega))]; exact h1.x7
      · rw [m6.o _ (by omega) (Ne.symm hb.n8O) (hnB _ (by omega))]; exact h1.ob
    have g1 : GoR b P A0 K0 q (fD D [(X9, ABlk.cells [f276 b] false)]) (some ⟨c, y, []⟩) A1 := ⟨⟨o, L', sl1, h2.take m3 m4, by omega⟩, fun z hz => (hG.F z hz).up hb u1⟩
    obtain ⟨B, hB⟩ : ∃ B, B = A1.push (.cells [.int .i64 c, .int .i64 y] false) := ⟨_, rfl⟩
    have eB : Ext' A1 B := by rw [hB]; exact Ext'.push A1 _
    have hBn : B.n = A1.n + 1 := by rw [hB]; rfl
    have m6n := m6.n
    have gB := g1.ext hb eB
    have x3 : B.get X3 = some (.cells [.int .i64 w, .int .i64 h, .int .i64 s, sl] false) := by rw [eB.2 _ (by have := m6.n; omega), sl1.low _ h3N]; exact hX3
    have b12 : B.get A1.n = some (.cells [.int .i64 c, .int .i64 y] false) := by rw [hB, get_push_new]
    simp (disch := as_aux_lemma => first | omega | simp only [hDs] <;> omega | simp [isCell]) [hRs, takeMarks, resA, resAll, resOne, Value.cells, t3, storeB_cells, setRange, set_push_eq, ← hB, x3, b12, WF_body (K := KL) rfl (show AP 112 = some F112 from rfl), F112]
    obtain ⟨C, hC⟩ : ∃ C, C = (B.push (.cells [.int .i64 w, .int .i64 h, .int .i64 s, sl] false)).push (.cells [.int .i64 c] false) := ⟨_, rfl⟩
    have eC : Ext' B C := by rw [hC]; exact (Ext'.push B _).trans (Ext'.push _ _)
    have hCn : C.n = B.n + 2 := by rw [hC]; rfl
    have cgb : C.get B.n = some (.cells [.int .i64 w, .int .i64 h, .int .i64 s, sl] false) := by rw [hC, get_push_old (by simp), get_push_new]
    have ccb : C.get (B.n + 1) = some (.cells [.int .i64 c] false) := by rw [hC, get_push_eq (by simp)]
    rw [← hC]
    obtain ⟨F, hF⟩ : ∃ F, F = fD D [(X9, ABlk.cells [f276 b] false)] := ⟨_, rfl⟩
    rw [← hF] at g1 gB
    have gC : GoR b P A0 K0 q ((A1.n, ABlk.cells [.int .i64 c, .int .i64 y] false) :: (B.n, ABlk.cells [.int .i64 w, .int .i64 h, .int .i64 s, sl] false) :: (B.n + 1, ABlk.cells [.int .i64 c] false) :: F) (some ⟨c, y, []⟩) C := by
      refine ⟨(gB.ext hb eC).e, fun x hx => ?_⟩
      rcases List.mem_cons.1 hx with rfl | hx
      · exact g1.new (eB.trans eC) (Nat.le_refl _) (eC.get b12)
      · rcases List.mem_cons.1 hx with rfl | hx
        · exact gB.new eC (Nat.le_refl _) cgb
        · rcases List.mem_cons.1 hx with rfl | hx
          · exact gB.new eC (Nat.le_succ _) ccb
          · exact (gB.ext hb eC).F x hx
    have hcI : (c : Int) < w * h := by rw [← hcw]; omega
    have m9 : (X9, ABlk.cells [f276 b] false) ∈ F := by rw [hF]; unfold fD; simp
    refine range269 (b := b) (c := c) (v := y) (w := w) (h := h) (s := s) (sl := sl) (X9 := X9) (B12 := A1.n) (gb := B.n) (cb := B.n + 1) (T1 := _) hb hP hh hm (by omega) hg hw hh' hcI (hnb c hcm) gC hder (by simp [m9]) (by simp) (by simp) (by simp) ?_ ?_ ?_ fun A2 gA2 => ?_
    · simp [t9]
    · simp
    · simp
    · simp (disch := as_aux_lemma => first | omega | simp only [hDs] <;> omega | simp [isCell]) [hRs, takeMarks, resA, resAll, resOne, Value.cells]
      refine ih (by omega) (D := C.n :: D) (gA2.mono fun x hx => ?_) ?_ ?_ ?_ ?_ ?_
      · unfold fD at hx
        rw [List.map_cons, List.cons_append] at hx
        rcases List.mem_cons.1 hx with rfl | hx
        · exact List.mem_cons_self ..
        · have hx' : x ∈ F := by rw [hF]; exact hx
          simp [hx']
      · refine List.nodup_cons.2 ⟨fun hmem => ?_, hD⟩
        have : (C.n, ABlk.marks) ∈ fD D [(X9, ABlk.cells [f276 b] false)] := by unfold fD; simp [hmem]
        have := Hp.lt_of_get (hG.F _ this).at_
        have := m6.n
        simp only at *
        omega
      · simp [t3]
      · simp [t7]
      · simp [t8]
      · simp [t9]
end
structure SLine (P : SPar) (w h : Int) : Prop where
  ok : SParOk P
  m : 1 ≤ P.m ∧ P.m ≤ 60
  wr : 1 ≤ w ∧ w ≤ 24
  hr : 1 ≤ h ∧ h ≤ 24
  wh : w * h = P.m
  nb : ∀ c, c < P.m → P.nb c = (nbrs w h c).map Int.toNat
def seaI (P : SPar) : List Int := P.sea.map fun (x : Nat) => (x : Int)
theorem seaI_get {P : SPar} {i : Nat} (h : i < P.sea.length) : gi (seaI P) i = ((P.sea[i] : Nat) : Int) := by simp [gi, seaI, List.getD, h]
section
variable {g : Nat} {rd : Option Nat} {T : List Value} {D : List Nat} {A : Hp} {Q : Ex → St → Prop} {V : Value → Hp → Prop}
theorem loop269a {b : SB} {P : SPar} {A0 : Hp} {K0 X9 : Nat} {sv : Value} (hb : b.Ok) (hP : SParOk P) (hh : HtOk g P A0 b.N0 b.hf) (hm : P.m < 1000) (hg : g ≤ b.N0) (hK : K0 + 1 < 1000000000000) (hs : RdS A0 1 P.sea.length (ints (seaI P)) sv) (hsn : P.sea.length < 1000000) (hsb : ∀ z, blkOf sv = some z → z < b.N0)
    (hQ : ∀ T' A', GoR b P A0 K0 P.sea [(X9, ABlk.cells [f276 b] false)] none A' → tget T' 3 = tget T 3 → tget T' 7 = tget T 7 → tget T' 8 = tget T 8 → tget T' 9 = tget T 9 → Q (.exit 0) ⟨T', D, A'⟩) :
    ∀ (k i : Nat) {T1 : List Value} {A : Hp}, i + k = P.sea.length → GoR b P A0 K0 (P.sea.take i) [(X9, ABlk.cells [f276 b] false)] none A → tget T1 3 = tget T 3 → tget T1 7 = tget T 7 → tget T1 8 = tget T 8 → tget T1 9 = tget T 9 → tget T 9 = .pointer (some ⟨X9, 0, none⟩) →
      tget T1 21 = sv → tget T1 22 = .int .i64 P.sea.length → tget T1 23 = .int .i64 i → W AP KL g rd (.loop body269a) ⟨T1, D, A⟩ Q := by
  intro k
  have ls : (seaI P).length = P.sea.length := by simp [seaI]
  induction k with
  | zero =>
    intro i T1 A hi hG t3 t7 t8 t9 T9 t21 t22 t23
    have : i = P.sea.length := by omega
    subst this
    rw [List.take_length] at hG
    rw [W_loop]
    simp (disch := as_aux_lemma => first | omega | simp only [hDs] <;> omega | simp [isCell]) [hRs, takeMarks, resA, resAll, resOne, Value.cells, body269a, t22, t23]
    exact hQ _ _ hG (by simp [t3]) (by simp [t7]) (by simp [t8]) (by simp [t9])
  | succ k ih =>
    intro i T1 A hi hG t3 t7 t8 t9 T9 t21 t22 t23
    have e5 : wr .i64 ((i : Int) + 1) = ((i + 1 : Nat) : Int) := by rw [wrId (by omega) (by omega)]; simp
    obtain ⟨o, L, h1, h2, h3⟩ := hG.e
    have hsA := hs.keepB (A' := A) fun z hz => h1.low z (hsb z hz)
    obtain ⟨xb, xc, xr, rfl, hxb⟩ := hsA.at (show i < P.sea.length by omega)
    have x9 := (hG.F _ (List.mem_singleton_self _)).at_
    unfold f276 at x9
    have hin : P.sea[i] ∈ P.sea := List.getElem_mem _
    have hd := hP.sea _ hin
    have hder : P.Der P.sea[i] (max (P.ht P.sea[i]) (-1073741824)) := .base hin
    have hht := hP.ht _ hd
    rw [W_loop]
    simp (disch := as_aux_lemma => first | omega | simp only [hDs] <;> omega | simp [isCell]) [hRs, takeMarks, resA, resAll, resOne, Value.cells, body269a, t9, T9, t21, t22, t23, show ((i : Int) < P.sea.length) by omega, show i < P.sea.length by omega, idxSA_ok, hxb, ints_get, ls, seaI_get (P := P) (i := i) (by omega), x9]
    refine w276 (d := P.sea[i]) (over := -1073741824) hb hP hh h1 h2.len (fun c hc => (h2.le c hc).2) hm hd (by omega) (by omega) hg fun v A4 L4 k1 k2 k3 => ?_
    have hK4 : 2 * potS (lowO P o P.sea[i] (-1073741824)) + L4.length ≤ K0 := by
      by_cases hlt : max (P.ht P.sea[i]) (-1073741824) < gi o P.sea[i]
      · have := potS_low (P := P) (o := o) (d := P.sea[i]) (over := -1073741824) (by rw [h2.len]; exact hd) (by omega) hlt
        unfold ReachL at k2
        rw [if_pos hlt] at k2
        omega
      · unfold ReachL at k2
        rw [if_neg hlt] at k2
        unfold lowO
        rw [if_neg hlt, k2]
        omega
    have sm := (h2.reach hP hd hder k2).seaOne (c := P.sea[i]) (lowO_at (by rw [h2.len]; exact hd))
    rw [show P.sea.take i ++ [P.sea[i]] = P.sea.take (i + 1) by simp] at sm
    have G4 : GoR b P A0 K0 (P.sea.take (i + 1)) [(X9, .cells [f276 b] false)] none A4 := ⟨⟨_, L4, k1, sm, hK4⟩, fun y hy => (hG.F y hy).up hb k3⟩
    simp (disch := as_aux_lemma => first | omega | simp only [hDs] <;> omega | simp [isCell]) [hRs, takeMarks, resA, resAll, resOne, Value.cells, t23, e5]
    refine ih (i + 1) (by omega) G4 ?_ ?_ ?_ ?_ T9 ?_ ?_ ?_
    all_goals simp [t3, t7, t8, t9, t21, t22]
theorem w269 {P : SPar} {w h s : Int} {sl hf : Value} {sv : Value} (hL : SLine P w h) (hlen : lenV sl = some (.int .i64 P.m)) (hz : RdS A 1 P.sea.length (ints (seaI P)) sv) (hsn : P.sea.length < 1000000) (hf' : hf.cells.toList = [hf]) (hh : HtOk g P A A.n hf) (hg : g ≤ A.n)
    (hV : ∀ A' o OB, SFin P o → Ext' A A' → A.n ≤ OB → A'.get OB = some (.cells (ints o) false) → V (rowS1 OB P.m) A') : WF AP KL g 269 [gridV w h s sl, sv, hf] A V := by
  rw [WF_body (show KL 269 = none from rfl) (show AP 269 = some F269 from rfl)]
  have hzl := hz.len
  have hm60 := hL.m
  obtain ⟨A0, hA0⟩ : ∃ A0, A0 = A.push (.cells [.int .i64 w, .int .i64 h, .int .i64 s, sl] false) := ⟨_, rfl⟩
  have e0 : Ext' A A0 := by rw [hA0]; exact Ext'.push A _
  have n0 : A0.n = A.n + 1 := by rw [hA0]; rfl
  have x3 : A0.get A.n = some (.cells [.int .i64 w, .int .i64 h, .int .i64 s, sl] false) := by rw [hA0, get_push_new]
  obtain ⟨A1, hA1⟩ : ∃ A1, A1 = (A0.push (.cells [hf] false)).push (.cells [.int .i64 1073741824] false) := ⟨_, rfl⟩
  have e1 : Ext' A0 A1 := by rw [hA1]; exact (Ext'.push A0 _).trans (Ext'.push _ _)
  have n1 : A1.n = A.n + 3 := by rw [hA1]; simp [n0]
  have x5 : A1.get (A.n + 1) = some (.cells [hf] false) := by rw [hA1, get_push_old (by simp; omega), get_push_eq ⟨by omega, by omega⟩]
  have x6 : A1.get (A.n + 2) = some (.cells [.int .i64 1073741824] false) := by rw [hA1, get_push_eq (by simp; omega)]
  have x31 := e1.get x3
  unfold Value.cells at hf'
  simp (disch := as_aux_lemma => first | omega | simp only [hDs] <;> omega | simp [isCell]) [hRs, takeMarks, resA, resAll, resOne, Value.cells, F269, gridV, slitA, fillA, setRange, n0, ← hA0, hlen, hf']
  rw [← hA1]
  simp (disch := as_aux_lemma => first | omega | simp only [hDs] <;> omega | simp [isCell]) [hRs, takeMarks, resA, resAll, resOne, Value.cells, x3, hlen]
  refine w83 (n := P.m) (by omega) (by omega) (b := A.n + 2) x6 (by omega) fun A2 e2 n2 ob2 => ?_
  rw [n1] at n2 ob2
  obtain ⟨A3, hA3⟩ : ∃ A3, A3 = ((A2.push (.cells [rowS1 (A.n + 3) P.m] false)).push (.cells [.slice none 0 0, bef275] false)).push (.cells [f276 ⟨A.n + 1, A.n + 6, A.n + 1, A.n + 4, A.n + 5, A.n + 3, hf⟩] false) := ⟨_, rfl⟩
  have e3 : Ext' A2 A3 := by rw [hA3]; exact ((Ext'.push A2 _).trans (Ext'.push _ _)).trans (Ext'.push _ _)
  have n3 : A3.n = A.n + 7 := by rw [hA3]; simp [n2]
  have x7 : A3.get (A.n + 4) = some (.cells [rowS1 (A.n + 3) P.m] false) := by rw [hA3, get_push_old (by simp; omega), get_push_old (by simp; omega), get_push_eq ⟨by omega, by omega⟩]
  have x8 : A3.get (A.n + 5) = some (.cells [.slice none 0 0, bef275] false) := by rw [hA3, get_push_old (by simp; omega), get_push_eq (by simp; omega)]
  have x9 : A3.get (A.n + 6) = some (.cells [f276 ⟨A.n + 1, A.n + 6, A.n + 1, A.n + 4, A.n + 5, A.n + 3, hf⟩] false) := by rw [hA3, get_push_eq (by simp; omega)]
  obtain ⟨b, hb⟩ : ∃ b : SB, b = ⟨A.n + 1, A.n + 6, A.n + 1, A.n + 4, A.n + 5, A.n + 3, hf⟩ := ⟨_, rfl⟩
  rw [← hb] at x9
  have hA3' := hA3.symm
  have hO : b.Ok := by rw [hb]; exact ⟨by simp, by simp, by simp, by simp, by simp, by simp, by simp, by simp, by simp⟩
  simp only [f276, rowS1, bef275] at hA3'
  have n83 : A2.n = A.n + 4 := by omega
  simp (disch := as_aux_lemma => first | omega | simp only [hDs] <;> omega | simp [isCell]) [hRs, takeMarks, resA, resAll, resOne, Value.cells, n1, rowS1, storeB_cells, set_push_eq, setRange_all, setRange, fillA, n83, hA3', hzl]
  obtain ⟨bN0, bN, b5, b7, b8, bO, bf⟩ : b.N0 = A.n + 1 ∧ b.N = A.n + 6 ∧ b.X5 = A.n + 1 ∧ b.X7 = A.n + 4 ∧ b.X8 = A.n + 5 ∧ b.OB = A.n + 3 ∧ b.hf = hf := by rw [hb]; exact ⟨rfl, rfl, rfl, rfl, rfl, rfl, rfl⟩
  have hP := hL.ok
  have e23 := e2.trans e3
  have hh' : HtOk g P A0 b.N0 b.hf := fun B d V h1 h2 h3 h4 => by
    rw [bf]
    refine hh B d V (fun y hy => ?_) (by omega) h3 h4
    rw [h1 y (by omega), e0.2 y hy]
  have sl0 : SL b P A0 A3 (List.replicate P.m noneV) [] := by
    refine ⟨fun y hy => ?_, ?_, ?_, ?_, ⟨⟨.slice none 0 0, by rw [b8]; exact x8, ⟨.inl ⟨rfl, rfl⟩⟩⟩, by omega⟩, by omega⟩
    · rw [(e1.trans e23).2 y (by omega)]
    · rw [b5, bf]; exact e23.get x5
    · rw [b7, bO]; exact x7
    · rw [bO]; exact e3.get ob2
  have G0 : GoR b P A0 (2 * potS (List.replicate P.m noneV)) [] [(A.n + 6, .cells [f276 b] false)] none A3 := by
    refine ⟨⟨_, [], sl0, SMid.start, by simp⟩, fun y hy => ?_⟩
    rw [List.mem_singleton] at hy
    subst hy
    refine ⟨x9, by simp only; omega, fun hB => ?_⟩
    obtain ⟨sv, q1, q2⟩ := hB
    rw [b8, x8] at q1
    cases q1
    cases q2
  have hpot : potS (List.replicate P.m noneV) = P.m * 2147483648 := potS_rep _
  have hlow : ∀ z, blkOf sv = some z → z < b.N0 := fun z hzz => by have := hz.blk_lt hzz; omega
  refine loop269a (b := b) (P := P) (A0 := A0) (K0 := 2 * potS (List.replicate P.m noneV)) (X9 := A.n + 6) (sv := sv) hO hP hh' (by omega) (by omega) (by omega) (e0.rdS hz) hsn hlow (fun T4 A4 G4 u3 u7 u8 u9 => ?_) P.sea.length 0 (by omega) (by simpa using G0) rfl rfl rfl rfl ?_ ?_ ?_ ?_
  rotate_left
  · simp
  · simp
  · simp
  · simp
  simp at u3 u7 u8 u9
  simp (disch := as_aux_lemma => first | omega | simp only [hDs] <;> omega | simp [isCell]) [hRs, takeMarks, resA, resAll, resOne, Value.cells]
  refine loop269b (b := b) (P := P) (A0 := A0) (q := P.sea) (w := w) (h := h) (s := s) (sl := sl) (X9 := A.n + 6) (X3 := A.n) hO hP hh' (by omega) (by omega) hL.wr hL.hr hL.wh.symm hL.nb x3 (by omega) (fun T5 A5 D5 K5 hG hD hE t7 => ?_) (2 * potS (List.replicate P.m noneV)) (by omega) (by simpa [fD] using G4) List.nodup_nil ?_ ?_ ?_ ?_
  · obtain ⟨o, s1, s2⟩ := hE
    have hmk : ∀ x, x ∈ D5 → SafeB b A5 x .marks := fun x hx => hG.F (x, .marks) (by unfold fD; simp [hx])
    obtain ⟨A6, m1, m2, m3⟩ := takeMarks_all D5 A5 hD fun x hx => (hmk x hx).at_
    have hlo : ∀ y, y < b.N → y ∉ D5 := fun y hy hm => by have := (hmk y hm).lo; omega
    have s7 := s1.x7
    unfold rowS1 at s7
    simp (disch := as_aux_lemma => first | omega | simp only [hDs] <;> omega | simp [isCell]) [hRs, takeMarks, resA, resAll, resOne, Value.cells, t7, s7, m1]
    refine hV A6 o b.OB s2.fin ⟨?_, fun y hy => ?_⟩ (by omega) ?_
    · have := s1.nn; omega
    · rw [m3 y (hlo y (by omega)), s1.low y (by omega), e0.2 y hy]
    · rw [m3 _ (hlo _ (by omega))]; exact s1.ob
  all_goals simp [b7, b8, u3, u7, u8, u9]
end
end Go.Ab.Grid
set_option maxRecDepth 100000
namespace Go.Ab.Grid
open Go Go.Ab
def upN (up : Bool) : Nat := if up then 1 else 0
def sPar (up : Bool) (bar : Option Nat) (w h : Int) (m : Nat) (zs : List Int) (sea : List Nat) : SPar := ⟨m, fun c => if some c = bar then 1073741824 else gi zs (c * 2 + upN up), fun c => (nbrs w h c).map Int.toNat, sea⟩
theorem sPar_line {up : Bool} {bar : Option Nat} {w h s : Int} {m : Nat} {zs : List Int} {sea : List Nat} (hE : gridE w h s m zs = 0) (hm60 : m ≤ 60) (hsea : ∀ c, c ∈ sea → c < m) : SLine (sPar up bar w h m zs sea) w h := by
  obtain ⟨hw, hh, hm, hv⟩ := gridE_parts hE
  have h1 := Int.mul_le_mul hw.1 hh.1 (by decide) (by omega)
  refine ⟨⟨fun c hc d hd => ?_, fun c hc => hsea c hc, fun c hc => ?_⟩, ⟨by show 1 ≤ m; omega, hm60⟩, hw, hh, hm.symm, fun _ _ => rfl⟩
  · obtain ⟨x, hx, rfl⟩ := List.mem_map.1 hd
    have := nbrs_range hw.1 hx
    show x.toNat < m
    omega
  · have := hv c hc
    show _ ≤ (if some c = bar then 1073741824 else gi zs (c * 2 + upN up)) ∧ (if some c = bar then 1073741824 else gi zs (c * 2 + upN up)) ≤ _
    split
    · omega
    · cases up
      · show _ ≤ gi zs (c * 2) ∧ gi zs (c * 2) ≤ _
        omega
      · show _ ≤ gi zs (c * 2 + 1) ∧ gi zs (c * 2 + 1) ≤ _
        omega
def castS (sea : List Nat) : List Int := sea.map fun (x : Nat) => (x : Int)
def endF (up : Bool) : Value := .func (.func (if up then 274 else 273)) ⟨[]⟩ ⟨[]⟩
section
variable {g : Nat} {rd : Option Nat} {T : List Value} {D : List Nat} {A : Hp} {Q : Ex → St → Prop} {V : Value → Hp → Prop}
theorem wEnd {up : Bool} {a b : Int} (hV : ∀ A', Ext' A A' → V (.int .i64 (if up then b else a)) A') : WV AP KL g (endF up) [.agg ⟨[.int .i64 a, .int .i64 b]⟩] A V := by
  cases up
  · unfold endF
    simp (disch := as_aux_lemma => first | omega | simp only [hDs] <;> omega | simp [isCell]) [hRs, takeMarks, resA, resAll, resOne, Value.cells]
    rw [WF_body (show KL 273 = none from rfl) (show AP 273 = some F273 from rfl)]
    simp (disch := as_aux_lemma => first | omega | simp only [hDs] <;> omega | simp [isCell]) [hRs, takeMarks, resA, resAll, resOne, Value.cells, F273]
    exact hV _ (Ext'.push A _)
  · unfold endF
    simp (disch := as_aux_lemma => first | omega | simp only [hDs] <;> omega | simp [isCell]) [hRs, takeMarks, resA, resAll, resOne, Value.cells]
    rw [WF_body (show KL 274 = none from rfl) (show AP 274 = some F274 from rfl)]
    simp (disch := as_aux_lemma => first | omega | simp only [hDs] <;> omega | simp [isCell]) [hRs, takeMarks, resA, resAll, resOne, Value.cells, F274]
    exact hV _ (Ext'.push A _)
theorem htok {up : Bool} {w h s : Int} {zs : List Int} {sl : Value} {m : Nat} {sea : List Nat} {b1 X : Nat} {r1 r2 : Bool} (hb1 : A.get b1 = some (.cells [endF up] r1)) (hX : A.get X = some (.cells [.int .i64 w, .int .i64 h, .int .i64 s, sl] r2)) (hsl : RdS A 2 m (ints zs) sl) :
    HtOk g (sPar up none w h m zs sea) A A.n (.func (.func 270) ⟨[]⟩ ⟨[.pointer (some ⟨b1, 0, none⟩), .pointer (some ⟨X, 0, none⟩)]⟩) := by
  intro B d V hB hn hd hV
  have q1 : B.get b1 = some (.cells [endF up] r1) := by rw [hB b1 (Hp.lt_of_get hb1)]; exact hb1
  have q2 : B.get X = some (.cells [.int .i64 w, .int .i64 h, .int .i64 s, sl] r2) := by rw [hB X (Hp.lt_of_get hX)]; exact hX
  have hd8 : d < m := hd
  obtain ⟨z, c, ro, rfl, hz⟩ := hsl.at hd8
  have q3 := (hB z (Hp.lt_of_get hz)).trans hz
  have hl := hsl.1
  rw [ints_length] at hl
  have i2 := ints_two (l := zs) (o := d * 2) (by omega)
  simp (disch := as_aux_lemma => first | omega | simp only [hDs] <;> omega | simp [isCell]) [hRs, takeMarks, resA, resAll, resOne, Value.cells]
  rw [WF_body (show KL 270 = none from rfl) (show AP 270 = some F270 from rfl)]
  simp (disch := as_aux_lemma => first | omega | simp only [hDs] <;> omega | simp [isCell]) [hRs, takeMarks, resA, resAll, resOne, Value.cells, F270, q1, q2, q3, show (d : Int) < m by omega, hd8, idxSA_ok, i2]
  refine wEnd fun A' e' => ?_
  simp (disch := as_aux_lemma => first | omega | simp only [hDs] <;> omega | simp [isCell]) [hRs, takeMarks, resA, resAll, resOne, Value.cells]
  have := hV A' (if up then gi zs (d * 2 + 1) else gi zs (d * 2)) true e' (.inl ⟨rfl, by cases up <;> simp [sPar, upN]⟩)
  exact this
theorem w268 {up : Bool} {w h s : Int} {zs : List Int} {sl sv0 : Value} {m : Nat} {sea : List Nat} {X S : Nat} {r2 r3 : Bool} (hm60 : m ≤ 60) (hsea : ∀ c, c ∈ sea → c < m) (hsn : sea.length < 1000000) (hE : gridE w h s m zs = 0) (hX : A.get X = some (.cells [.int .i64 w, .int .i64 h, .int .i64 s, sl] r2)) (hS : A.get S = some (.cells [sv0] r3)) (hz : RdS A 1 sea.length (ints (castS sea)) sv0) (hsl : RdS A 2 m (ints zs) sl) (hg : g ≤ A.n)
    (hV : ∀ A' o OB, SFin (sPar up none w h m zs sea) o → Ext' A A' → A.n ≤ OB → A'.get OB = some (.cells (ints o) false) → V (rowS1 OB m) A') : WF AP KL g 268 [endF up, .pointer (some ⟨X, 0, none⟩), .pointer (some ⟨S, 0, none⟩)] A V := by
  rw [WF_body (show KL 268 = none from rfl) (show AP 268 = some F268 from rfl)]
  obtain ⟨B, hB⟩ : ∃ B, B = A.push (.cells [endF up] false) := ⟨_, rfl⟩
  have eB : Ext' A B := by rw [hB]; exact Ext'.push A _
  have hBn : B.n = A.n + 1 := by rw [hB]; rfl
  have b1 : B.get A.n = some (.cells [endF up] false) := by rw [hB, get_push_new]
  have hB' := hB.symm
  unfold endF at hB'
  unfold endF
  simp (disch := as_aux_lemma => first | omega | simp only [hDs] <;> omega | simp [isCell]) [hRs, takeMarks, resA, resAll, resOne, Value.cells, F268, hB', eB.get hX, eB.get hS]
  refine w269 (P := sPar up none w h m zs sea) (sPar_line (up := up) (s := s) hE hm60 hsea) hsl.len (eB.rdS hz) hsn rfl (htok (A := B) b1 (eB.get hX) (eB.rdS hsl)) (by omega) fun A' o OB k1 k2 k3 k4 => ?_
  unfold rowS1
  simp (disch := as_aux_lemma => first | omega | simp only [hDs] <;> omega | simp [isCell]) [hRs, takeMarks, resA, resAll, resOne, Value.cells]
  exact hV A' o OB k1 (eB.trans k2) (by omega) k4
theorem w271 {a b : Int} (hV : ∀ A', Ext' A A' → V (.agg ⟨[.int .i64 a, .int .i64 b]⟩) A') (hg : g ≤ A.n) : WF AP KL g 271 [.int .i64 a, .int .i64 b] A V := by
  rw [WF_body (show KL 271 = none from rfl) (show AP 271 = some F271 from rfl)]
  simp (disch := as_aux_lemma => first | omega | simp only [hDs] <;> omega | simp [isCell]) [hRs, takeMarks, resA, resAll, resOne, Value.cells, F271, fillA, setRange, storeB_cells, set_push_eq, setRange_all]
  exact hV _ (Ext'.push A _)
end
def pairI (lo up : List Int) (i : Nat) : List Int := (List.range i).flatMap fun j => [gi lo j, gi up j]
theorem pairI_succ {lo up : List Int} {i : Nat} : pairI lo up (i + 1) = pairI lo up i ++ [gi lo i, gi up i] := by
  unfold pairI; rw [List.range_succ, List.flatMap_append]; simp
theorem pairI_len {lo up : List Int} : ∀ {i : Nat}, (pairI lo up i).length = i * 2
  | 0 => rfl
  | i + 1 => by rw [pairI_succ, List.length_append, pairI_len]; simp; omega
theorem pairI_get {lo up : List Int} : ∀ {i j : Nat}, j < i → gi (pairI lo up i) (j * 2) = gi lo j ∧ gi (pairI lo up i) (j * 2 + 1) = gi up j
  | i + 1, j, h => by
    rw [pairI_succ]
    have hl := pairI_len (lo := lo) (up := up) (i := i)
    by_cases hj : j = i
    · subst hj
      exact ⟨gi_r (j := 0) hl, gi_r (j := 1) hl⟩
    · rw [gi_l (by omega), gi_l (by omega)]
      exact pairI_get (by omega)
section
variable {g : Nat} {rd : Option Nat} {T : List Value} {D : List Nat} {A : Hp} {Q : Ex → St → Prop} {V : Value → Hp → Prop}
theorem loop267 {N X1 X2 : Nat} {A0 : Hp} {lo up : List Int} {m : Nat} (hm60 : m ≤ 60) (hl1 : lo.length = m) (hl2 : up.length = m) (h1 : A0.get X1 = some (.cells (ints lo) false)) (h2 : A0.get X2 = some (.cells (ints up) false)) (hN : A0.n = N) (hg : g ≤ N)
    (t1 : tget T 1 = .func (.func 271) ⟨[]⟩ ⟨[]⟩) (t6 : tget T 6 = rowS1 X1 m) (t7 : tget T 7 = rowS1 X2 m) (t13 : tget T 13 = rowS1 X1 m) (t14 : tget T 14 = .int .i64 m)
    (hQ : ∀ T' A' sv, tget T' 5 = sv → AccS N A' 2 (ints (pairI lo up m)) sv → Ext' A0 A' → Q (.exit 0) ⟨T', D, A'⟩) :
    ∀ (k i : Nat) {T1 : List Value} {A : Hp} {sv : Value}, i + k = m → KeepT [1, 6, 7, 13, 14] T T1 → tget T1 5 = sv → tget T1 15 = .int .i64 i → AccS N A 2 (ints (pairI lo up i)) sv → Ext' A0 A → W AP KL g rd (.loop body267) ⟨T1, D, A⟩ Q := by
  intro k
  induction k with
  | zero =>
    intro i T1 A sv hik hk t5 t15 hacc he
    have : i = m := by omega
    subst this
    have u14 := (hk.at 14 rfl).trans t14
    rw [W_loop]
    simp (disch := as_aux_lemma => first | omega | simp only [hDs] <;> omega | simp [isCell]) [hRs, takeMarks, resA, resAll, resOne, Value.cells, body267, u14, t15]
    exact hQ _ A sv (by simp [t5]) hacc he
  | succ k ih =>
    intro i T1 A sv hik hk t5 t15 hacc he
    have u1 := (hk.at 1 rfl).trans t1
    have u6 := (hk.at 6 rfl).trans t6
    have u7 := (hk.at 7 rfl).trans t7
    have u14 := (hk.at 14 rfl).trans t14
    unfold rowS1 at u6 u7
    have i1 := ints_get (l := lo) (o := i) (by omega)
    have i2 := ints_get (l := up) (o := i) (by omega)
    have e3 : wr .i64 ((i : Int) + 1) = ((i + 1 : Nat) : Int) := by rw [wrId (by omega) (by omega)]; simp
    have hn := he.1
    rw [W_loop]
    simp (disch := as_aux_lemma => first | omega | simp only [hDs] <;> omega | simp [isCell]) [hRs, takeMarks, resA, resAll, resOne, Value.cells, body267, t5, t15, u14, show (i : Int) < m by omega, show i < m by omega, u1, u6, u7, idxSA_ok, he.get h1, he.get h2, i1, i2]
    refine w271 (fun A2 e2 => ?_) (by omega)
    have hn2 := e2.1
    obtain ⟨sv', A3, ha, hacc', hold', hn3⟩ := AccS.add (g := g) (bytes := 16) (n := i) (ro := false) (new := [.int .i64 (gi lo i), .int .i64 (gi up i)]) (hacc.mono fun x hx => e2.2 x hx) hg (by omega) rfl (by decide) rfl (by rw [ints_length, pairI_len]) (by unfold room; omega)
    simp (disch := as_aux_lemma => first | omega | simp only [hDs] <;> omega | simp [isCell]) [hRs, takeMarks, resA, resAll, resOne, Value.cells, t5, t15, slitA, fillA, setRange, ha, e3]
    exact ih (i + 1) (sv := sv') (by omega) (hk.trans (by simp)) (by simp) (by simp) (by rw [pairI_succ, ints_append]; exact hacc') ⟨by omega, fun z hz => by rw [hold' z (by omega), (he.trans e2).2 z hz]⟩
theorem w267 {w h s : Int} {zs : List Int} {sl sv0 : Value} {m : Nat} {sea : List Nat} {X S : Nat} {r2 r3 : Bool} (hm60 : m ≤ 60) (hsea : ∀ c, c ∈ sea → c < m) (hsn : sea.length < 1000000) (hE : gridE w h s m zs = 0) (hX : A.get X = some (.cells [.int .i64 w, .int .i64 h, .int .i64 s, sl] r2)) (hS : A.get S = some (.cells [sv0] r3)) (hz : RdS A 1 sea.length (ints (castS sea)) sv0) (hsl : RdS A 2 m (ints zs) sl) (hg : g ≤ A.n)
    (hV : ∀ A' lo up sv, SFin (sPar false none w h m zs sea) lo → SFin (sPar true none w h m zs sea) up → Ext' A A' → RdS A' 2 m (ints (pairI lo up m)) sv → (∀ b, blkOf sv = some b → A.n ≤ b) → V sv A') : WF AP KL g 267 [.func (.func 268) ⟨[]⟩ ⟨[.pointer (some ⟨X, 0, none⟩), .pointer (some ⟨S, 0, none⟩)]⟩, .func (.func 271) ⟨[]⟩ ⟨[]⟩] A V := by
  rw [WF_body (show KL 267 = none from rfl) (show AP 267 = some F267 from rfl)]
  simp (disch := as_aux_lemma => first | omega | simp only [hDs] <;> omega | simp [isCell]) [hRs, takeMarks, resA, resAll, resOne, Value.cells, F267]
  refine w268 (up := false) hm60 hsea hsn hE hX hS hz hsl hg fun A1 lo X1 k1 k2 k3 k4 => ?_
  have n1 := k2.1
  simp (disch := as_aux_lemma => first | omega | simp only [hDs] <;> omega | simp [isCell]) [hRs, takeMarks, resA, resAll, resOne, Value.cells]
  refine w268 (up := true) hm60 hsea hsn hE (k2.get hX) (k2.get hS) (k2.rdS hz) (k2.rdS hsl) (by omega) fun A2 up X2 q1 q2 q3 q4 => ?_
  have n2 := q2.1
  unfold rowS1
  simp (disch := as_aux_lemma => first | omega | simp only [hDs] <;> omega | simp [isCell]) [hRs, takeMarks, resA, resAll, resOne, Value.cells]
  refine loop267 (A0 := A2) (N := A2.n) (X1 := X1) (X2 := X2) (lo := lo) (up := up) (m := m) hm60 k1.len q1.len (q2.get k4) q4 rfl (by omega) (T := _) ?_ ?_ ?_ ?_ ?_ (fun T' A3 sv t5 hacc he => ?_) m 0 (by omega) (fun _ _ => rfl) rfl ?_ ?_ (Ext'.refl _)
  · simp
  · simp [rowS1]
  · simp [rowS1]
  · simp [rowS1]
  · simp
  · simp (disch := as_aux_lemma => first | omega | simp only [hDs] <;> omega | simp [isCell]) [hRs, takeMarks, resA, resAll, resOne, Value.cells, t5]
    refine hV A3 lo up sv k1 q1 ((k2.trans q2).trans he) (hacc.rd (by rw [ints_length, pairI_len]) (by decide)) fun b hb => ?_
    have := (hacc.blk_ge hb).1
    omega
  · simp
  · simp [pairI]
    exact .inl ⟨by simp, rfl⟩
theorem w272 {w h s : Int} {sl : Value} {X : Nat} {r2 : Bool} {m : Nat} (hm : m < 1000000) (hX : A.get X = some (.cells [.int .i64 w, .int .i64 h, .int .i64 s, sl] r2)) (hl : lenV sl = some (.int .i64 m)) {c : Int} (hV : V (.bool (!(decide (0 ≤ c) && decide (c ≤ (m : Int) - 1)))) A) : WF AP KL g 272 [.int .i64 c, .pointer (some ⟨X, 0, none⟩)] A V := by
  rw [WF_body (show KL 272 = none from rfl) (show AP 272 = some F272 from rfl)]
  simp (disch := as_aux_lemma => first | omega | simp only [hDs] <;> omega | simp [isCell]) [hRs, takeMarks, resA, resAll, resOne, Value.cells, F272, hX, hl, wrId (n := (m : Int) - 1) (by omega) (by omega)]
  refine w55 ?_
  simp (disch := as_aux_lemma => first | omega | simp only [hDs] <;> omega | simp [isCell]) [hRs, takeMarks, resA, resAll, resOne, Value.cells]
  simpa using hV
end
end Go.Ab.Grid
