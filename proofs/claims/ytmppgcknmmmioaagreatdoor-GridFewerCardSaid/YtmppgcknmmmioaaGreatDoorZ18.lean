/- GridFewer's loop over the cells. -/
import Derived.Test.YtmppgcknmmmioaaGreatDoorZ16
import Derived.Test.YtmppgcknmmmioaaGreatDoorZ17
set_option linter.unusedSimpArgs false
set_option linter.unusedVariables false
set_option linter.unusedSectionVars false
set_option maxRecDepth 100000
namespace Go.Ab.Grid
open Go Go.Ab
def seasI (m : Nat) (ss : List Int) : Nat → List Int
  | 0 => [0]
  | i + 1 => seasI m ss i ++ [(gi ss i).tmod m]
theorem seasI_len {m : Nat} {ss : List Int} : ∀ {i : Nat}, (seasI m ss i).length = i + 1
  | 0 => rfl
  | i + 1 => by rw [seasI, List.length_append, seasI_len]; simp
theorem seasI_mem {m : Nat} {ss : List Int} (hm : 1 ≤ m) (hs : ∀ i, 0 ≤ gi ss i) : ∀ {i : Nat} {x : Int}, x ∈ seasI m ss i → 0 ≤ x ∧ x < m
  | 0, x, h => by
    have : x = 0 := by simpa [seasI] using h
    omega
  | i + 1, x, h => by
    rw [seasI, List.mem_append] at h
    rcases h with h | h
    · exact seasI_mem hm hs h
    · rw [List.mem_singleton] at h
      rw [h]
      exact ⟨Int.tmod_nonneg _ (hs i), Int.tmod_lt_of_pos _ (by omega)⟩
section
variable {g : Nat} {rd : Option Nat} {T : List Value} {D : List Nat} {A : Hp} {Q : Ex → St → Prop} {V : Value → Hp → Prop}
theorem loop311 {A0 : Hp} {w h s : Int} {sl sn : Value} {m n X2 N : Nat} {ss : List Int} (hm : 1 ≤ m) (hn : n < 1000000) (hs : RdS A0 1 n (kints .u8 ss) sn) (hr : ∀ i, 0 ≤ gi ss i ∧ gi ss i ≤ 255) (hX : A0.get X2 = some (.cells [.int .i64 w, .int .i64 h, .int .i64 s, sl] false)) (hl : lenV sl = some (.int .i64 m)) (hN : A0.n ≥ N) (hg : g ≤ N) (hXN : X2 < N) (hsN : ∀ z, blkOf sn = some z → z < N)
    (hQ : ∀ T' A' sv, (∀ z, z < N → A'.get z = A0.get z) → N ≤ A'.n → AccS N A' 1 (ints (seasI m ss n)) sv → tget T' 5 = sv → Q (.exit 0) ⟨T', D, A'⟩) :
    ∀ (k i : Nat) {T : List Value} {A : Hp} (sv : Value), i + k = n → (∀ z, z < N → A.get z = A0.get z) → N ≤ A.n → AccS N A 1 (ints (seasI m ss i)) sv → tget T 2 = .pointer (some ⟨X2, 0, none⟩) → tget T 5 = sv → tget T 9 = sn → tget T 10 = .int .i64 n → tget T 11 = .int .i64 i → W AP KL g rd (.loop body311) ⟨T, D, A⟩ Q := by
  intro k
  have lc : ss.length = n := by have := hs.1; simpa using this
  induction k with
  | zero =>
    intro i T A sv hi hb hNA hacc t2 t5 t9 t10 t11
    have : i = n := by omega
    subst this
    rw [W_loop]
    simp (disch := as_aux_lemma => first | omega | simp only [hDs] <;> omega | simp [isCell]) [hRs, takeMarks, resA, resAll, resOne, Value.cells, body311, t10, t11]
    exact hQ _ _ sv hb hNA hacc (by simp [t5])
  | succ k ih =>
    intro i T A sv hi hb hNA hacc t2 t5 t9 t10 t11
    have e5 : wr .i64 ((i : Int) + 1) = ((i + 1 : Nat) : Int) := by rw [wrId (by omega) (by omega)]; simp
    obtain ⟨xb, xc, xr, rfl, hxb⟩ := (hs.keepB (A' := A) fun z hz => hb z (hsN z hz)).at (show i < n by omega)
    have aX : A.get X2 = some (.cells [.int .i64 w, .int .i64 h, .int .i64 s, sl] false) := by rw [hb _ hXN]; exact hX
    have hri := hr i
    have f1 : wr .i64 (gi ss i) = gi ss i := wrId (by omega) (by omega)
    obtain ⟨sv', A1, a1, a2, a3, a4⟩ := append_acc (g := g) (bytes := 8) (y := A.n) (A := A.push (.cells [.int .i64 ((gi ss i).tmod m)] false)) (new := [.int .i64 ((gi ss i).tmod m)]) (ro := false) (n := i + 1) (hacc.mono (Ext'.push A _).2) (by omega) (by simp; omega) get_push_new rfl (by decide) rfl (by simp [seasI_len]) (by unfold room; omega)
    rw [show ints (seasI m ss i) ++ [.int .i64 ((gi ss i).tmod m)] = ints (seasI m ss (i + 1)) by rw [seasI, ints_append]; rfl] at a2
    rw [W_loop]
    simp (disch := as_aux_lemma => first | omega | simp only [hDs] <;> omega | simp [isCell]) [hRs, takeMarks, resA, resAll, resOne, Value.cells, body311, t2, t5, t9, t10, t11, show ((i : Int) < n) by omega, show i < n by omega, idxSA_ok, hxb, kints_get (k := .u8) (show i < ss.length by omega), toIntA, f1, aX, hl, binA_rem (show ((m : Nat) : Int) ≠ 0 by omega), slitA, fillA, setRange, zeros, a1, e5]
    refine ih (i + 1) sv' (by omega) (fun z hz => by rw [a3 z hz, get_push_old (by omega), hb z hz]) (by rw [a4]; simp; omega) a2 ?_ ?_ ?_ ?_ ?_
    all_goals simp [t2, t9, t10]
theorem w311 {x : G} {vx sn : Value} {n : Nat} {ss : List Int} (hx : GAt A x vx) (hm : 1 ≤ x.m) (hn : n < 1000000) (hs : RdS A 1 n (kints .u8 ss) sn) (hr : ∀ i, 0 ≤ gi ss i ∧ gi ss i ≤ 255) (hg : g ≤ A.n)
    (hV : ∀ A' sv, Ext' A A' → AccS A.n A' 1 (ints (seasI x.m ss n)) sv → V sv A') : WF AP KL g 311 [vx, sn] A V := by
  obtain ⟨sl, rfl, rx⟩ := hx
  rw [WF_body (show KL 311 = none from rfl) (show AP 311 = some F311 from rfl)]
  obtain ⟨B, hB⟩ : ∃ B, B = A.push (.cells [.int .i64 x.w, .int .i64 x.h, .int .i64 x.s, sl] false) := ⟨_, rfl⟩
  have eB : Ext' A B := by rw [hB]; exact Ext'.push _ _
  have nB : B.n = A.n + 1 := by rw [hB]; rfl
  have b2 : B.get A.n = some (.cells [.int .i64 x.w, .int .i64 x.h, .int .i64 x.s, sl] false) := by rw [hB]; exact get_push_new
  have hl := hs.len
  simp (disch := as_aux_lemma => first | omega | simp only [hDs] <;> omega | simp [isCell]) [hRs, takeMarks, resA, resAll, resOne, Value.cells, F311, gridV, ← hB, slitA, zeros, fillA, setRange, hl]
  obtain ⟨C, hC⟩ : ∃ C, C = B.push (.cells [.int .i64 0] false) := ⟨_, rfl⟩
  rw [← hC]
  have eC : Ext' B C := by rw [hC]; exact Ext'.push _ _
  have nC : C.n = B.n + 1 := by rw [hC]; rfl
  have hacc : AccS B.n C 1 (ints (seasI x.m ss 0)) (.slice (some ⟨B.n, 0, some 1⟩) 1 1) := .inr ⟨B.n, 1, rfl, by rw [hC]; exact get_push_new, Nat.le_refl _, rfl, by omega⟩
  refine loop311 (A0 := C) (N := B.n) (X2 := A.n) (m := x.m) (n := n) (ss := ss) (sn := sn) (w := x.w) (h := x.h) (s := x.s) hm hn ((eB.trans eC).rdS hs) hr (eC.get b2) rx.len (by omega) (by omega) (by omega) (fun z hz => by have := hs.blk_lt hz; omega) (fun T' A' sv hb hNA hacc' t5 => ?_) n 0 _ (by omega) (fun _ _ => rfl) (by omega) hacc ?_ ?_ ?_ ?_ ?_
  · simp (disch := as_aux_lemma => first | omega | simp only [hDs] <;> omega | simp [isCell]) [hRs, takeMarks, resA, resAll, resOne, Value.cells, t5]
    exact hV A' sv ⟨by omega, fun z hz => by rw [hb z (by omega), (eB.trans eC).2 z hz]⟩ (hacc'.weaken (by omega))
  all_goals simp [nB]
theorem w317 {sv : Value} {e : Int} (hV : V (if e = 0 then sv else .slice none 0 0) A) : WF AP KL g 317 [sv, .int .i64 e] A V := by
  rw [WF_body (show KL 317 = none from rfl) (show AP 317 = some F317 from rfl)]
  by_cases h : e = 0
  · rw [if_pos h] at hV
    simp (disch := as_aux_lemma => first | omega | simp only [hDs] <;> omega | simp [isCell]) [hRs, takeMarks, resA, resAll, resOne, Value.cells, F317, h]
    exact hV
  · rw [if_neg h] at hV
    simp (disch := as_aux_lemma => first | omega | simp only [hDs] <;> omega | simp [isCell]) [hRs, takeMarks, resA, resAll, resOne, Value.cells, F317, h]
    exact hV
theorem w314 {a b c d : Int} (h : c ≤ a ∧ b ≤ d ∧ a ≤ b) (hV : ∀ A', Ext' A A' → V (.bool true) A') : WF AP KL g 314 [.agg ⟨[.int .i64 a, .int .i64 b]⟩, .agg ⟨[.int .i64 c, .int .i64 d]⟩] A V := by
  rw [WF_body (show KL 314 = none from rfl) (show AP 314 = some F314 from rfl)]
  simp (disch := as_aux_lemma => first | omega | simp only [hDs] <;> omega | simp [isCell]) [hRs, takeMarks, resA, resAll, resOne, Value.cells, F314, h.1, h.2.1, h.2.2]
  exact hV _ ((Ext'.push _ _).trans (Ext'.push _ _))
end
end Go.Ab.Grid
set_option maxRecDepth 100000
namespace Go.Ab.Grid
open Go Go.Ab
structure Ord where
  n : Nat
  cs : List Int
  nh : Nat
  hs : List Int
  ne : Nat
  es : List Int
  m : Nat
def Ord.c (o : Ord) (i : Nat) : Int := (gi o.cs i).tmod o.m
def Ord.h (o : Ord) (i : Nat) : Int := gi o.hs (i % o.nh)
def Ord.e (o : Ord) (i : Nat) : Int := gi o.es (i % o.ne)
def Ord.ls (o : Ord) : Nat → List Int
  | 0 => []
  | i + 1 => o.ls i ++ [o.c i, o.h i, o.e i]
def Ord.rv (o : Ord) : Nat → List Int
  | 0 => []
  | i + 1 => [o.c i, o.h i, o.e i] ++ o.rv i
def wset (cur : List Int) (c : Nat) (lo hi : Int) : List Int := (cur.set (c * 2) (max (gi cur (c * 2)) lo)).set (c * 2 + 1) (min (gi cur (c * 2 + 1)) hi)
def Ord.want (o : Ord) (zs : List Int) : Nat → List Int
  | 0 => zs
  | i + 1 => wset (o.want zs i) (o.c i).toNat (o.h i - o.e i) (o.h i + o.e i)
structure Ord.Ok (o : Ord) : Prop where
  n : o.cs.length = o.n ∧ o.n ≤ 12
  nh : o.hs.length = o.nh ∧ 0 < o.nh ∧ o.nh ≤ 9223372036854775807
  ne : o.es.length = o.ne ∧ 0 < o.ne ∧ o.ne ≤ 9223372036854775807
  m : 1 ≤ o.m ∧ o.m ≤ 25
  c : ∀ i, 0 ≤ gi o.cs i ∧ gi o.cs i ≤ 255
  h : ∀ i, -32768 ≤ gi o.hs i ∧ gi o.hs i ≤ 32767
  e : ∀ i, 0 ≤ gi o.es i ∧ gi o.es i ≤ 255
theorem Ord.Ok.cr {o : Ord} (h : o.Ok) (i : Nat) : 0 ≤ o.c i ∧ o.c i < o.m := ⟨Int.tmod_nonneg _ (h.c i).1, Int.tmod_lt_of_pos _ (by have := h.m; omega)⟩
section
variable {g : Nat} {rd : Option Nat} {T : List Value} {D : List Nat} {A : Hp} {Q : Ex → St → Prop} {V : Value → Hp → Prop}
structure OrdI (o : Ord) (zs : List Int) (A0 : Hp) (Y : Nat) (i : Nat) (s10 s11 : Value) (A : Hp) : Prop where
  hb : But Y A0 A
  hY : A.get Y = some (.cells (ints (o.want zs i)) false)
  a10 : AccS A0.n A 3 (ints (o.ls i)) s10
  a11 : RdS A 3 i (ints (o.rv i)) s11
  b11 : ∀ z, blkOf s11 = some z → A0.n ≤ z ∧ blkOf s10 ≠ some z
end
end Go.Ab.Grid
set_option maxRecDepth 100000
namespace Go.Ab.Grid
open Go Go.Ab
section
variable {g : Nat} {rd : Option Nat} {T : List Value} {D : List Nat} {A : Hp} {Q : Ex → St → Prop} {V : Value → Hp → Prop}
end
end Go.Ab.Grid
set_option maxRecDepth 100000
namespace Go.Ab.Grid
open Go Go.Ab
structure NarR (zs : List Int) (m : Nat) (R : Nat → Int → Int → Prop) (cur : List Int) : Prop where
  len : cur.length = m * 2
  lo : ∀ j, j < m → ∀ t, gi cur (j * 2) ≤ t ↔ gi zs (j * 2) ≤ t ∧ ∀ a b, R j a b → a ≤ t
  hi : ∀ j, j < m → ∀ t, t ≤ gi cur (j * 2 + 1) ↔ t ≤ gi zs (j * 2 + 1) ∧ ∀ a b, R j a b → t ≤ b
theorem wset_lo {cur : List Int} {c j : Nat} {lo hi : Int} (h : c * 2 + 2 ≤ cur.length) : gi (wset cur c lo hi) (j * 2) = if j = c then max (gi cur (c * 2)) lo else gi cur (j * 2) := by
  unfold wset
  rw [gi_setI (by simp; omega), if_neg (by omega), gi_setI (by omega)]
  by_cases h' : j = c
  · rw [if_pos (by omega), if_pos h']
  · rw [if_neg (by omega), if_neg h']
theorem wset_hi {cur : List Int} {c j : Nat} {lo hi : Int} (h : c * 2 + 2 ≤ cur.length) : gi (wset cur c lo hi) (j * 2 + 1) = if j = c then min (gi cur (c * 2 + 1)) hi else gi cur (j * 2 + 1) := by
  unfold wset
  rw [gi_setI (by simp; omega)]
  by_cases h' : j = c
  · rw [if_pos (by omega), if_pos h']
  · rw [if_neg (by omega), if_neg h', gi_setI (by omega), if_neg (by omega)]
theorem NarR.start {zs : List Int} {m : Nat} (h : zs.length = m * 2) : NarR zs m (fun _ _ _ => False) zs := ⟨h, fun _ _ _ => by simp, fun _ _ _ => by simp⟩
theorem NarR.congr {zs : List Int} {m : Nat} {R R' : Nat → Int → Int → Prop} {cur : List Int} (h : NarR zs m R cur) (hR : ∀ j a b, R j a b ↔ R' j a b) : NarR zs m R' cur :=
  ⟨h.len, fun j hj t => by rw [h.lo j hj t]; simp only [hR], fun j hj t => by rw [h.hi j hj t]; simp only [hR]⟩
theorem NarR.next {zs : List Int} {m c : Nat} {R : Nat → Int → Int → Prop} {cur : List Int} {x y : Int} (h : NarR zs m R cur) (hc : c < m) : NarR zs m (fun j a b => R j a b ∨ (j = c ∧ a = x ∧ b = y)) (wset cur c x y) := by
  have hl := h.len
  refine ⟨by unfold wset; simp [hl], fun j hj t => ?_, fun j hj t => ?_⟩
  · rw [wset_lo (by omega)]
    have h1 := h.lo j hj t
    by_cases hjc : j = c
    · subst hjc
      rw [if_pos rfl, Int.max_le, h1]
      constructor
      · rintro ⟨⟨p1, p2⟩, p3⟩
        refine ⟨p1, fun a b hr => ?_⟩
        rcases hr with hr | ⟨_, rfl, _⟩
        · exact p2 a b hr
        · exact p3
      · rintro ⟨p1, p2⟩
        exact ⟨⟨p1, fun a b hr => p2 a b (.inl hr)⟩, p2 x y (.inr ⟨rfl, rfl, rfl⟩)⟩
    · rw [if_neg hjc, h1]
      constructor
      · rintro ⟨p1, p2⟩
        refine ⟨p1, fun a b hr => ?_⟩
        rcases hr with hr | ⟨h', _, _⟩
        · exact p2 a b hr
        · exact absurd h' hjc
      · rintro ⟨p1, p2⟩
        exact ⟨p1, fun a b hr => p2 a b (.inl hr)⟩
  · rw [wset_hi (by omega)]
    have h1 := h.hi j hj t
    by_cases hjc : j = c
    · subst hjc
      rw [if_pos rfl, Int.le_min, h1]
      constructor
      · rintro ⟨⟨p1, p2⟩, p3⟩
        refine ⟨p1, fun a b hr => ?_⟩
        rcases hr with hr | ⟨_, _, rfl⟩
        · exact p2 a b hr
        · exact p3
      · rintro ⟨p1, p2⟩
        exact ⟨⟨p1, fun a b hr => p2 a b (.inl hr)⟩, p2 x y (.inr ⟨rfl, rfl, rfl⟩)⟩
    · rw [if_neg hjc, h1]
      constructor
      · rintro ⟨p1, p2⟩
        refine ⟨p1, fun a b hr => ?_⟩
        rcases hr with hr | ⟨h', _, _⟩
        · exact p2 a b hr
        · exact absurd h' hjc
      · rintro ⟨p1, p2⟩
        exact ⟨p1, fun a b hr => p2 a b (.inl hr)⟩
theorem NarR.uniq {zs : List Int} {m : Nat} {R : Nat → Int → Int → Prop} {u v : List Int} (h : NarR zs m R u) (h' : NarR zs m R v) : u = v := by
  refine list_gi (by rw [h.len, h'.len]) fun i hi => ?_
  rw [h.len] at hi
  obtain ⟨j, hj⟩ : ∃ j, i = j * 2 ∨ i = j * 2 + 1 := ⟨i / 2, by omega⟩
  rcases hj with rfl | rfl
  · have a := (h.lo j (by omega) (gi v (j * 2))).2 ((h'.lo j (by omega) _).1 (Int.le_refl _))
    have b := (h'.lo j (by omega) (gi u (j * 2))).2 ((h.lo j (by omega) _).1 (Int.le_refl _))
    omega
  · have a := (h.hi j (by omega) (gi v (j * 2 + 1))).2 ((h'.hi j (by omega) _).1 (Int.le_refl _))
    have b := (h'.hi j (by omega) (gi u (j * 2 + 1))).2 ((h.hi j (by omega) _).1 (Int.le_refl _))
    omega
theorem Land.zs_get {L : Land} : ∀ {n j : Nat}, j < n → gi (L.zs n) (j * 2) = L.lo j ∧ gi (L.zs n) (j * 2 + 1) = L.hi j
  | 0, j, h => by omega
  | n + 1, j, h => by
    have hl : (L.zs n).length = n * 2 := Land.zs_len
    rw [Land.zs]
    by_cases hj : j = n
    · subst hj
      exact ⟨gi_r (j := 0) hl, gi_r (j := 1) hl⟩
    · obtain ⟨a, b⟩ := Land.zs_get (L := L) (n := n) (j := j) (by omega)
      rw [gi_l (by omega), gi_l (by omega)]
      exact ⟨a, b⟩
theorem Land.Ok.rng {L : Land} (h : L.Ok) (i : Nat) : -32768 ≤ L.lo i ∧ L.lo i ≤ L.hi i ∧ L.hi i ≤ 33022 := by
  have a : -32768 ≤ L.lo i ∧ L.lo i ≤ 32767 := by unfold Land.lo; split; exact h.low _; omega
  have b : L.lo i ≤ L.hi i ∧ L.hi i ≤ L.lo i + 255 := by
    unfold Land.hi
    split
    · have := h.more (i % L.nm); omega
    · omega
  omega
theorem Land.Ok.E {L : Land} (h : L.Ok) : L.G.E = 0 := by
  have hw := h.w
  have hh := h.h
  have hn := h.n
  show gridE L.w L.h 100 L.n (L.zs L.n) = 0
  refine gridE_d ?_ (by rw [← hn.1]; exact (wrId (by omega) (by omega)).symm) ?_
  · rw [show (decide (1 ≤ L.w) && decide (L.w ≤ 24)) = true by simp; omega, show (decide (1 ≤ L.h) && decide (L.h ≤ 24)) = true by simp; omega]
    decide
  · rw [List.any_eq_false]
    intro j hj
    rw [List.mem_range] at hj
    obtain ⟨a, b⟩ := Land.zs_get (L := L) hj
    have r := h.rng j
    have : grd (L.zs L.n) j = true := by
      unfold grd validB
      rw [a, b]
      simp
      omega
    rw [this]
    decide
theorem Ord.Ok.snd {o : Ord} (hO : o.Ok) {i j : Nat} {ls : List Int} (h : gi ls (j * 3) = o.c i ∧ gi ls (j * 3 + 1) = o.h i ∧ gi ls (j * 3 + 2) = o.e i) : sndC o.m ls j = 0 := by
  have a := hO.cr i
  have b : -32768 ≤ o.h i ∧ o.h i ≤ 32767 := hO.h _
  have c : 0 ≤ o.e i ∧ o.e i ≤ 255 := hO.e _
  rw [sndC, h.1, h.2.1, h.2.2, if_pos (by simp; omega), if_pos (by simp; omega), if_pos (by simp; omega)]
end Go.Ab.Grid
set_option maxRecDepth 100000
namespace Go.Ab.Grid
open Go Go.Ab
def asg324 : ACode := (.ops [oM 12 23])
def body324 : ACode := (.block 1
 (.ops [
oL 24 11,
oL 25 10,
oM 26 12,
oI 27 25 26 1,
oL 28 27,
oP 29 (.min [.t 24, .t 28]),
oT 11 29 1]))
def leastL (o : List Int) (l : List Int) : Int := l.foldl (fun a d => min a (gi o d.toNat)) 1073741824
theorem leastL_snoc {o l : List Int} {d : Int} : leastL o (l ++ [d]) = min (leastL o l) (gi o d.toNat) := by simp [leastL]
section
variable {g : Nat} {rd : Option Nat} {T : List Value} {D : List Nat} {A : Hp} {Q : Ex → St → Prop} {V : Value → Hp → Prop}
theorem loop199 {n : Nat} {cs : List Int} {sv : Value} {x : Int} (hs : RdS A 1 n (ints cs) sv) (hn : n < 1000000)
    (hQ : ∀ T', x ∉ cs → Q (.exit 0) ⟨T', D, A⟩) (hR : ∀ T' (i : Nat), x ∈ cs → tget T' 4 = .int .i64 i → Q .ret ⟨T', D, A⟩) :
    ∀ (k i : Nat) {T : List Value}, i + k = n → (∀ j, j < i → gi cs j ≠ x) → tget T 0 = sv → tget T 1 = .int .i64 x → tget T 7 = .int .i64 n → tget T 8 = .int .i64 i → W AP KL g rd (.loop body199) ⟨T, D, A⟩ Q := by
  intro k
  have lc : cs.length = n := by have := hs.1; simpa using this
  induction k with
  | zero =>
    intro i T hi hp t0 t1 t7 t8
    rw [W_loop]
    simp (disch := as_aux_lemma => first | omega | simp only [hDs] <;> omega | simp [isCell]) [hRs, takeMarks, resA, resAll, resOne, Value.cells, body199, t7, t8, show ¬ ((i : Int) < n) by omega]
    refine hQ _ fun hx => ?_
    obtain ⟨j, hj, rfl⟩ := List.getElem_of_mem hx
    exact hp j (by omega) (gi_eq hj)
  | succ k ih =>
    intro i T hi hp t0 t1 t7 t8
    have e5 : wr .i64 ((i : Int) + 1) = ((i + 1 : Nat) : Int) := by rw [wrId (by omega) (by omega)]; simp
    obtain ⟨xb, xc, xr, rfl, hxb⟩ := hs.at (show i < n by omega)
    rw [W_loop]
    by_cases he : x = gi cs i
    · have hm : x ∈ cs := by rw [he, gi_eq (show i < cs.length by omega)]; exact List.getElem_mem _
      simp (disch := as_aux_lemma => first | omega | simp only [hDs] <;> omega | simp [isCell]) [hRs, takeMarks, resA, resAll, resOne, Value.cells, body199, t0, t1, t7, t8, show ((i : Int) < n) by omega, show i < n by omega, idxSA_ok, hxb, ints_get, lc, he]
      exact hR _ i hm (by simp)
    · simp (disch := as_aux_lemma => first | omega | simp only [hDs] <;> omega | simp [isCell]) [hRs, takeMarks, resA, resAll, resOne, Value.cells, body199, t0, t1, t7, t8, show ((i : Int) < n) by omega, show i < n by omega, idxSA_ok, hxb, ints_get, lc, he, e5]
      refine ih (i + 1) (by omega) (fun j hj => ?_) ?_ ?_ ?_ ?_
      · by_cases h : j = i
        · rw [h]; exact fun h' => he h'.symm
        · exact hp j (by omega)
      all_goals simp [t0, t1, t7]
theorem w169 {n : Nat} {cs : List Int} {sv : Value} {x : Int} (hs : RdS A 1 n (ints cs) sv) (hn : n < 1000000) (hV : V (.bool (decide (x ∈ cs))) A) : WF AP KL g 169 [sv, .int .i64 x] A V := by
  rw [WF_body (show KL 169 = none from rfl) (show AP 169 = some F169 from rfl)]
  simp (disch := as_aux_lemma => first | omega | simp only [hDs] <;> omega | simp [isCell]) [hRs, takeMarks, resA, resAll, resOne, Value.cells, F169]
  rw [WF_body (show KL 199 = none from rfl) (show AP 199 = some F199 from rfl)]
  have hl := hs.len
  simp (disch := as_aux_lemma => first | omega | simp only [hDs] <;> omega | simp [isCell]) [hRs, takeMarks, resA, resAll, resOne, Value.cells, F199, hl]
  refine loop199 (x := x) hs hn (fun T' hx => ?_) (fun T' i hx t4 => ?_) n 0 (by omega) (fun j hj => by omega) ?_ ?_ ?_ ?_
  · simp (disch := as_aux_lemma => first | omega | simp only [hDs] <;> omega | simp [isCell]) [hRs, takeMarks, resA, resAll, resOne, Value.cells, hx]
    simpa [hx] using hV
  · simp (disch := as_aux_lemma => first | omega | simp only [hDs] <;> omega | simp [isCell]) [hRs, takeMarks, resA, resAll, resOne, Value.cells, t4]
    simpa [hx] using hV
  all_goals simp
structure BrI (A0 : Hp) (X11 : Nat) (T1 : List Value) (o done : List Int) (A : Hp) : Prop where
  e : But X11 A0 A
  n : A0.n + 3 ≤ A.n
  m : A.get A0.n = some .marks
  l : A.get (A0.n + 1) = some (recL T1 [23] asg324 body324)
  r : A.get (A0.n + 2) = some (.cells (ints dirI) false)
  s : A.get X11 = some (.cells [.int .i64 (leastL o done)] false)
theorem BrI.push {A0 A : Hp} {X11 : Nat} {T1 : List Value} {o done : List Int} (h : BrI A0 X11 T1 o done A) (b : ABlk) : BrI A0 X11 T1 o done (A.push b) := by
  obtain ⟨e, n, m, l, r, s⟩ := h
  have k := Ext'.push A b
  exact ⟨e.trans (But.of_ext k), by simp; omega, k.get m, k.get l, k.get r, k.get s⟩
theorem y324 {A0 : Hp} {X10 X11 OB m : Nat} {T1 : List Value} {o done : List Int} {d : Nat} (h : BrI A0 X11 T1 o done A) (hg : g ≤ X11) (hX : X11 < A0.n) (hne : X10 ≠ X11) (hOB : OB ≠ X11) (h10 : A0.get X10 = some (.cells [rowS1 OB m] false)) (ho : A0.get OB = some (.cells (ints o) false)) (hlo : o.length = m) (hd : d < m)
    (t10 : tget T1 10 = .pointer (some ⟨X10, 0, none⟩)) (t11 : tget T1 11 = .pointer (some ⟨X11, 0, none⟩)) (hV : ∀ A', BrI A0 X11 T1 o (done ++ [(d : Int)]) A' → V (.bool true) A') :
    WV AP KL g (.func (.yield (A0.n + 1)) #[] #[]) [.int .i64 d] A V := by
  obtain ⟨e, n, m', l, r, s⟩ := h
  have n10 := Hp.lt_of_get h10
  have nO := Hp.lt_of_get ho
  refine WV_yield l (by omega) ?_
  obtain ⟨B, hB⟩ : ∃ B, B = A.set (A0.n + 1) (some (.loop { state := .busy, pending := none, tmps := T1, params := [23], assign := .ops [oM 12 23], body := body324 })) := ⟨_, rfl⟩
  rw [← hB]
  have nB : B.n = A.n := by rw [hB]; rfl
  have oB : ∀ z, z < A.n → z ≠ A0.n + 1 → B.get z = A.get z := fun z hz hne => by rw [hB, get_set_ne (by omega) hne]
  have lB : B.get (A0.n + 1) = some (.loop { state := .busy, pending := none, tmps := T1, params := [23], assign := .ops [oM 12 23], body := body324 }) := by rw [hB, get_set_same l]
  have b10 : B.get X10 = some (.cells [rowS1 OB m] false) := by rw [oB _ (by omega) (by omega), e.2 _ n10 hne]; exact h10
  have bO : B.get OB = some (.cells (ints o) false) := by rw [oB _ (by omega) (by omega), e.2 _ nO hOB]; exact ho
  have b11 : B.get X11 = some (.cells [.int .i64 (leastL o done)] false) := by rw [oB _ (by omega) (by omega)]; exact s
  unfold rowS1 at b10
  have g2 : ∀ (k : ABlk) z, z ≠ X11 → z < A.n → (B.set X11 (some k)).get z = B.get z := fun k z hz hzn => get_set_ne (by omega) hz
  have l2 : ∀ k, (B.set X11 (some k)).get (A0.n + 1) = some (.loop { state := .busy, pending := none, tmps := T1, params := [23], assign := .ops [oM 12 23], body := body324 }) := fun k => by rw [g2 _ _ (by omega) (by omega)]; exact lB
  simp (disch := as_aux_lemma => first | omega | simp only [hDs] <;> omega | simp [isCell]) [hRs, takeMarks, resA, resAll, resOne, Value.cells, body324, t10, t11, b10, b11, bO, idxSA_ok, hd, ints_get, hlo, storeB_cells, setRange_all, RoundQ]
  unfold body324 at l2
  refine ⟨l2 _, hV _ ?_⟩
  have g3 : ∀ (k k' : ABlk) z, z ≠ X11 → z ≠ A0.n + 1 → z < A.n → ((B.set X11 (some k)).set (A0.n + 1) (some k')).get z = A.get z := fun k k' z h1 h2 hzn => by rw [get_set_ne (by simp; omega) h2, g2 _ _ h1 hzn, oB _ hzn h2]
  refine ⟨⟨by simp; have := e.1; omega, fun z hz hzn => by rw [g3 _ _ z hzn (by omega) (by omega)]; exact e.2 z hz hzn⟩, by simp; omega, ?_, ?_, ?_, ?_⟩
  · rw [g3 _ _ _ (by omega) (by omega) (by omega)]; exact m'
  · exact get_set_same (l2 _)
  · rw [g3 _ _ _ (by omega) (by omega) (by omega)]; exact r
  · rw [get_set_ne (by simp; omega) (by omega), get_set_same b11, leastL_snoc, Int.toNat_natCast]
theorem range324 {A0 : Hp} {X10 X11 OB m gb cb : Nat} {T1 : List Value} {o : List Int} {w h s c : Int} {sl : Value} (hw : 1 ≤ w ∧ w ≤ 24) (hh : 1 ≤ h ∧ h ≤ 24) (hc : 0 ≤ c ∧ c < w * h) (hm : (m : Int) = w * h) (hlo : o.length = m) (hg : g ≤ X11)
    (hgb : A0.get gb = some (.cells [.int .i64 w, .int .i64 h, .int .i64 s, sl] false)) (hcb : A0.get cb = some (.cells [.int .i64 c] false)) (h10 : A0.get X10 = some (.cells [rowS1 OB m] false)) (h11 : A0.get X11 = some (.cells [.int .i64 1073741824] false)) (ho : A0.get OB = some (.cells (ints o) false))
    (n10 : X10 ≠ X11) (nO : OB ≠ X11) (ng : gb ≠ X11) (nc : cb ≠ X11)
    (t10 : tget T1 10 = .pointer (some ⟨X10, 0, none⟩)) (t11 : tget T1 11 = .pointer (some ⟨X11, 0, none⟩)) (t22 : tget T1 22 = .func (.func 114) ⟨[]⟩ ⟨[.pointer (some ⟨cb, 0, none⟩), .pointer (some ⟨gb, 0, none⟩)]⟩)
    (hQ : ∀ A', But X11 A0 A' → A'.get X11 = some (.cells [.int .i64 (leastL o (nbrs w h c))] false) → A'.get A0.n = some .marks → Q .normal ⟨T1, A0.n :: D, A'⟩) :
    W AP KL g none (.rangeF (.t 22) [23] asg324 body324) ⟨T1, D, A0⟩ Q := by
  refine W_range (h := 114) (first := []) (captured := [.pointer (some ⟨cb, 0, none⟩), .pointer (some ⟨gb, 0, none⟩)]) t22 ?_
  rw [WF_body (show KL 114 = none from rfl) (show AP 114 = some F114 from rfl)]
  have gn := Hp.lt_of_get hgb
  have cn := Hp.lt_of_get hcb
  have n11 := Hp.lt_of_get h11
  obtain ⟨C, hC⟩ : ∃ C, C = (A0.push .marks).push (recL T1 [23] asg324 body324) := ⟨_, rfl⟩
  rw [← hC]
  have nC : C.n = A0.n + 2 := by rw [hC]; simp
  have e1 : Ext' A0 C := by rw [hC]; exact (Ext'.push A0 _).trans (Ext'.push _ _)
  have mC : C.get A0.n = some .marks := by rw [hC, get_push_old (by simp), get_push_new]
  have lC : C.get (A0.n + 1) = some (recL T1 [23] asg324 body324) := by rw [hC, get_push_eq (by simp)]
  obtain ⟨⟨p1, p2⟩, p3, p4⟩ := cell_parts hw.1 hc.1 hc.2
  have c24 : w * h ≤ 24 * 24 := Int.mul_le_mul hw.2 hh.2 (by omega) (by omega)
  have z4 : zeros 4 [Value.int .i64 0, .int .i64 0] = [.int .i64 0, .int .i64 0, .int .i64 0, .int .i64 0, .int .i64 0, .int .i64 0, .int .i64 0, .int .i64 0] := rfl
  have q1 : wr .i64 (c.tdiv w) = c.tdiv w := wrId (by omega) (by omega)
  have q2 : wr .i64 (c.tmod w) = c.tmod w := wrId (by omega) (by omega)
  have q1' : wr .i64 (c / w) = c / w := by rwa [Int.tdiv_eq_ediv_of_nonneg hc.1] at q1
  have hcb' := e1.get hcb
  have hgb' := e1.get hgb
  have hcbn := Hp.lt_of_get hcb'
  have hgbn := Hp.lt_of_get hgb'
  simp (disch := as_aux_lemma => first | omega | simp only [hDs] <;> omega | simp [isCell]) [hRs, takeMarks, resA, resAll, resOne, Value.cells, F114, hcb', hgb', binA_rem (show w ≠ 0 by omega), binA_quo (show w ≠ 0 by omega), q1, q2, slitA, fillA, setRange, z4]
  obtain ⟨E0, hE⟩ : ∃ E0, E0 = C.push (.cells (ints dirI) false) := ⟨_, rfl⟩
  have hE' := hE.symm
  simp only [dirI, ints, List.map_cons, List.map_nil] at hE'
  rw [hE']
  have e2 : Ext' C E0 := by rw [hE]; exact Ext'.push C _
  have h0 : BrI A0 X11 T1 o [] E0 := ⟨But.of_ext (e1.trans e2), by rw [hE]; simp [nC], e2.get mC, e2.get lC, by rw [hE]; exact get_push_eq (by omega), (e1.trans e2).get h11⟩
  refine loop114 (P := BrI A0 X11 T1 o) (L := A0.n + 1) (G := gb) (R := A0.n + 2) (w := w) (h := h) (c := c) (s := s) (sl := sl) hw hh ⟨p1, p2⟩ ⟨p3, p4⟩ (fun dn A' hP => ⟨by rw [hP.e.2 _ gn ng]; exact hgb, hP.r, by have := hP.n; omega⟩) (fun dn A' b hP => hP.push b)
    (fun dn d A' V' hl hP hd hV' => ?_) (fun T' A' hP => ?_) 4 0 (by omega) h0 ?_ ?_ ?_ ?_ ?_ ?_ ?_
  · obtain ⟨d0, d1⟩ := nbrs_range hw.1 hd
    obtain ⟨dN, rfl⟩ : ∃ dN : Nat, d = (dN : Int) := ⟨d.toNat, by omega⟩
    exact y324 hP hg n11 n10 nO h10 ho hlo (by omega) t10 t11 hV'
  · obtain ⟨e, n, m', l, r, s'⟩ := hP
    simp (disch := as_aux_lemma => first | omega | simp only [hDs] <;> omega | simp [isCell]) [hRs, takeMarks, resA, resAll, resOne, Value.cells, EndQ, l, recL]
    have g3 : ∀ (k : ABlk) z, z ≠ A0.n + 1 → z < A'.n → (A'.set (A0.n + 1) (some k)).get z = A'.get z := fun k z hz hzn => get_set_ne (by omega) hz
    refine hQ _ ⟨by simp; exact e.1, fun z hz hzn => by rw [g3 _ z (by omega) (by have := e.1; omega)]; exact e.2 z hz hzn⟩ ?_ ?_
    · rw [g3 _ _ (by omega) (by omega)]; exact s'
    · rw [g3 _ _ (by omega) (by omega)]; exact m'
  all_goals simp [nC, q1']
theorem htok349 {up : Bool} {w h s : Int} {zs : List Int} {sl : Value} {m c : Nat} {sea : List Nat} {b1 X X6 : Nat} {r1 r2 r3 : Bool} (hb1 : A.get b1 = some (.cells [endF up] r1)) (hX : A.get X = some (.cells [.int .i64 w, .int .i64 h, .int .i64 s, sl] r2)) (hX6 : A.get X6 = some (.cells [.int .i64 c] r3)) (hsl : RdS A 2 m (ints zs) sl) :
    HtOk g (sPar up (some c) w h m zs sea) A A.n (.func (.func 349) ⟨[]⟩ ⟨[.pointer (some ⟨b1, 0, none⟩), .pointer (some ⟨X, 0, none⟩), .pointer (some ⟨X6, 0, none⟩)]⟩) := by
  intro B d V hB hn hd hV
  have q1 : B.get b1 = some (.cells [endF up] r1) := by rw [hB b1 (Hp.lt_of_get hb1)]; exact hb1
  have q2 : B.get X = some (.cells [.int .i64 w, .int .i64 h, .int .i64 s, sl] r2) := by rw [hB X (Hp.lt_of_get hX)]; exact hX
  have q6 : B.get X6 = some (.cells [.int .i64 c] r3) := by rw [hB X6 (Hp.lt_of_get hX6)]; exact hX6
  have hd8 : d < m := hd
  obtain ⟨z, cc, ro, rfl, hz⟩ := hsl.at hd8
  have q3 := (hB z (Hp.lt_of_get hz)).trans hz
  have hl := hsl.1
  rw [ints_length] at hl
  have i2 := ints_two (l := zs) (o := d * 2) (by omega)
  simp (disch := as_aux_lemma => first | omega | simp only [hDs] <;> omega | simp [isCell]) [hRs, takeMarks, resA, resAll, resOne, Value.cells]
  rw [WF_body (show KL 349 = none from rfl) (show AP 349 = some F349 from rfl)]
  simp (disch := as_aux_lemma => first | omega | simp only [hDs] <;> omega | simp [isCell]) [hRs, takeMarks, resA, resAll, resOne, Value.cells, F349, q1, q2, q3, q6, show (d : Int) < m by omega, hd8, idxSA_ok, i2]
  refine wEnd fun A' e' => ?_
  simp (disch := as_aux_lemma => first | omega | simp only [hDs] <;> omega | simp [isCell]) [hRs, takeMarks, resA, resAll, resOne, Value.cells, e'.get q6]
  by_cases hdc : d = c
  · have := hV A' (if up then gi zs (d * 2 + 1) else gi zs (d * 2)) false e' (.inr ⟨rfl, by simp [sPar, hdc]⟩)
    simpa [hdc] using this
  · have := hV A' (if up then gi zs (d * 2 + 1) else gi zs (d * 2)) true e' (.inl ⟨rfl, by cases up <;> simp [sPar, upN, hdc]⟩)
    have hdc' : ¬ (d : Int) = (c : Int) := by omega
    simpa [hdc, hdc'] using this
def BrinkV (up : Bool) (w h : Int) (m : Nat) (zs : List Int) (cs : List Int) (c : Nat) (v : Value) : Prop :=
  if (c : Int) ∈ cs then v = .tuple ⟨[.int .i64 0, .bool false]⟩ else ∃ o, SFin (sPar up (some c) w h m zs (seaN cs)) o ∧ v = .tuple ⟨[.int .i64 (leastL o (nbrs w h c)), .bool true]⟩
theorem w324 {up : Bool} {w h s : Int} {zs : List Int} {sl sv0 : Value} {m n c : Nat} {cs : List Int} (hm60 : m ≤ 60) (hn : n < 1000000) (hz : RdS A 1 n (ints cs) sv0) (hsl : RdS A 2 m (ints zs) sl) (hg : g ≤ A.n) (h0 : seaE w h s m zs n cs = 0) (hc : c < m)
    (hV : ∀ A' v, Ext' A A' → BrinkV up w h m zs cs c v → V v A') : WF AP KL g 324 [gridV w h s sl, sv0, .int .i64 c, endF up] A V := by
  have hcl : cs.length = n := by have := hz.1; simpa using this
  obtain ⟨hE, hn0, hsea, hcast⟩ := seaE_zero hcl h0
  obtain ⟨gw, gh, gm, _⟩ := gridE_parts hE
  have hsl' : (seaN cs).length = n := by simp [seaN, hcl]
  rw [WF_body (show KL 324 = none from rfl) (show AP 324 = some F324 from rfl)]
  obtain ⟨B, hB⟩ : ∃ B, B = ((A.push (.cells [.int .i64 w, .int .i64 h, .int .i64 s, sl] false)).push (.cells [.int .i64 c] false)).push (.cells [endF up] false) := ⟨_, rfl⟩
  have eB : Ext' A B := by rw [hB]; exact ((Ext'.push _ _).trans (Ext'.push _ _)).trans (Ext'.push _ _)
  have nB : B.n = A.n + 3 := by rw [hB]; rfl
  have b4 : B.get A.n = some (.cells [.int .i64 w, .int .i64 h, .int .i64 s, sl] false) := by rw [hB, get_push_old (by simp; omega), get_push_old (by simp), get_push_eq (by omega)]
  have b6 : B.get (A.n + 1) = some (.cells [.int .i64 c] false) := by rw [hB, get_push_old (by simp), get_push_eq (by simp)]
  have b7 : B.get (A.n + 2) = some (.cells [endF up] false) := by rw [hB, get_push_eq (by simp)]
  have hB' := hB.symm
  unfold endF at hB'
  unfold endF
  simp (disch := as_aux_lemma => first | omega | simp only [hDs] <;> omega | simp [isCell]) [hRs, takeMarks, resA, resAll, resOne, Value.cells, F324, gridV, hB', b6]
  refine w169 (eB.rdS hz) hn ?_
  by_cases hin : (c : Int) ∈ cs
  · simp (disch := as_aux_lemma => first | omega | simp only [hDs] <;> omega | simp [isCell]) [hRs, takeMarks, resA, resAll, resOne, Value.cells, hin]
    exact hV B _ eB (by rw [BrinkV, if_pos hin])
  · simp (disch := as_aux_lemma => first | omega | simp only [hDs] <;> omega | simp [isCell]) [hRs, takeMarks, resA, resAll, resOne, Value.cells, hin, b4]
    refine w269 (P := sPar up (some c) w h m zs (seaN cs)) (sPar_line (up := up) (s := s) hE hm60 hsea) hsl.len (by show RdS B 1 (seaN cs).length (ints (castS (seaN cs))) sv0; rw [hsl', hcast]; exact eB.rdS hz) (by show (seaN cs).length < _; omega) rfl (htok349 (A := B) b7 b4 b6 (eB.rdS hsl)) (by omega) fun A1 o OB k1 k2 k3 k4 => ?_
    have n1 := k2.1
    unfold rowS1
    simp (disch := as_aux_lemma => first | omega | simp only [hDs] <;> omega | simp [isCell]) [hRs, takeMarks, resA, resAll, resOne, Value.cells, storeB_cells, set_push_eq, setRange_all, k2.get b4, k2.get b6]
    rw [WF_body (show KL 112 = none from rfl) (show AP 112 = some F112 from rfl)]
    simp (disch := as_aux_lemma => first | omega | simp only [hDs] <;> omega | simp [isCell]) [hRs, takeMarks, resA, resAll, resOne, Value.cells, F112]
    obtain ⟨C, hC⟩ : ∃ C, C = (((A1.push (.cells [.slice (some ⟨OB, 0, some 1⟩) m m] false)).push (.cells [.int .i64 1073741824] false)).push (.cells [.int .i64 w, .int .i64 h, .int .i64 s, sl] false)).push (.cells [.int .i64 c] false) := ⟨_, rfl⟩
    have hOn := Hp.lt_of_get k4
    have eC : Ext' A1 C := by rw [hC]; exact (((Ext'.push _ _).trans (Ext'.push _ _)).trans (Ext'.push _ _)).trans (Ext'.push _ _)
    have nC : C.n = A1.n + 4 := by rw [hC]; rfl
    have c0 : C.get A1.n = some (.cells [.slice (some ⟨OB, 0, some 1⟩) m m] false) := by rw [hC, get_push_old (by simp <;> omega), get_push_old (by simp <;> omega), get_push_old (by simp), get_push_eq (by omega)]
    have c1 : C.get (A1.n + 1) = some (.cells [.int .i64 1073741824] false) := by rw [hC, get_push_old (by simp <;> omega), get_push_old (by simp), get_push_eq (by simp)]
    have c2 : C.get (A1.n + 2) = some (.cells [.int .i64 w, .int .i64 h, .int .i64 s, sl] false) := by rw [hC, get_push_old (by simp), get_push_eq (by simp)]
    have c3 : C.get (A1.n + 3) = some (.cells [.int .i64 c] false) := by rw [hC, get_push_eq (by simp)]
    show W AP KL g none (.rangeF (.t 22) [23] asg324 body324) ⟨_, [], (((A1.push (.cells [.slice (some ⟨OB, 0, some 1⟩) m m] false)).push (.cells [.int .i64 1073741824] false)).push (.cells [.int .i64 w, .int .i64 h, .int .i64 s, sl] false)).push (.cells [.int .i64 c] false)⟩ _
    rw [← hC]
    refine range324 (A0 := C) (X10 := A1.n) (X11 := A1.n + 1) (OB := OB) (m := m) (gb := A1.n + 2) (cb := A1.n + 3) (o := o) (w := w) (h := h) (s := s) (c := c) (sl := sl) gw gh ⟨by omega, by omega⟩ gm k1.len (by omega) c2 c3 c0 c1 (eC.get k4) (by omega) (by omega) (by omega) (by omega) ?_ ?_ ?_ fun A' hb h11 hmk => ?_
    · simp
    · simp
    · simp
    · have hn' := hb.1
      have hmn := Hp.lt_of_get hmk
      simp (disch := as_aux_lemma => first | omega | simp only [hDs] <;> omega | simp [isCell]) [hRs, takeMarks, resA, resAll, resOne, Value.cells, h11, hmk]
      refine hV _ _ ⟨by simp; have := eB.1; omega, fun z hz => ?_⟩ ?_
      · rw [get_set_ne (by omega) (by have := eB.1; have := k2.1; omega), hb.2 z (by have := eB.1; have := k2.1; omega) (by have := eB.1; have := k2.1; omega), (eB.trans (k2.trans eC)).2 z hz]
      · rw [BrinkV, if_neg hin]
        exact ⟨o, k1, rfl⟩
end
end Go.Ab.Grid
set_option maxRecDepth 100000
namespace Go.Ab.Grid
open Go Go.Ab
def PondC (w h : Int) (m : Nat) (zs cs : List Int) (i : Nat) (a b : Int) : Prop :=
  if (i : Int) ∈ cs then a = 0 ∧ b = 0 else ∃ ol oh, SFin (sPar false (some i) w h m zs (seaN cs)) ol ∧ SFin (sPar true (some i) w h m zs (seaN cs)) oh ∧ a = max 0 (leastL ol (nbrs w h i) - gi zs (i * 2 + 1)) ∧ b = max 0 (leastL oh (nbrs w h i) - gi zs (i * 2))
theorem leastL_rng {o : List Int} (ho : ∀ c, -1073741824 ≤ gi o c ∧ gi o c ≤ 1073741824) (l : List Int) : -1073741824 ≤ leastL o l ∧ leastL o l ≤ 1073741824 := by
  unfold leastL
  suffices h : ∀ a : Int, -1073741824 ≤ a ∧ a ≤ 1073741824 → -1073741824 ≤ l.foldl (fun a d => min a (gi o d.toNat)) a ∧ l.foldl (fun a d => min a (gi o d.toNat)) a ≤ 1073741824 from h _ (by omega)
  induction l with
  | nil => intro a ha; exact ha
  | cons x l ih =>
    intro a ha
    have := ho x.toNat
    exact ih (min a (gi o x.toNat)) (by omega)
theorem zeros2 {n : Nat} : zeros n [.int .i64 0, .int .i64 0] = ints (List.replicate (n * 2) 0) := by
  unfold zeros ints
  apply List.ext_getElem (by simp)
  intro i h1 h2
  have : i % 2 = 0 ∨ i % 2 = 1 := by omega
  rcases this with h | h <;> simp [h]
theorem makeS2_ok {n : Nat} {A : Hp} (hn : n < 1000000) : makeSA 2 16 [.int .i64 0, .int .i64 0] (.int .i64 n) (.int .i64 n) A = some (.slice (some ⟨A.n, 0, some 2⟩) n n, A.push (.cells (ints (List.replicate (n * 2) 0)) false)) := by
  unfold makeSA
  simp only
  rw [if_pos ⟨by omega, by omega, by unfold room; omega, by unfold room; omega⟩, zeros2]
  rfl
section
variable {g : Nat} {rd : Option Nat} {T : List Value} {D : List Nat} {A : Hp} {Q : Ex → St → Prop} {V : Value → Hp → Prop}
theorem SFin.rng {P : SPar} {o : List Int} (h : SFin P o) (c : Nat) : -1073741824 ≤ gi o c ∧ gi o c ≤ 1073741824 := by
  by_cases hc : c < P.m
  · exact h.le c hc
  · have : gi o c = 0 := by simp [gi, List.getD, show o.length ≤ c by have := h.len; omega]
    omega
theorem loop297 {A0 : Hp} {w h s : Int} {zs cs : List Int} {sl sv0 : Value} {m n X2 Y : Nat} (hm60 : m ≤ 60) (hn : n < 1000000) (hz : RdS A0 1 n (ints cs) sv0) (hsl : RdS A0 2 m (ints zs) sl) (hg : g ≤ Y) (h0 : seaE w h s m zs n cs = 0) (hX2 : A0.get X2 = some (.cells [.int .i64 w, .int .i64 h, .int .i64 s, sl] false))
    (hYn : Y < A0.n) (hYz : ∀ z, blkOf sv0 = some z → z ≠ Y) (hYs : ∀ z, blkOf sl = some z → z ≠ Y) (hY2 : X2 ≠ Y)
    (hQ : ∀ T' A' cur, But Y A0 A' → A'.get Y = some (.cells (ints cur) false) → cur.length = m * 2 → (∀ j, j < m → PondC w h m zs cs j (gi cur (j * 2)) (gi cur (j * 2 + 1))) → tget T' 7 = .slice (some ⟨Y, 0, some 2⟩) m m → Q (.exit 0) ⟨T', D, A'⟩) :
    ∀ (k i : Nat) {T : List Value} {A : Hp} (cur : List Int), i + k = m → But Y A0 A → A.get Y = some (.cells (ints cur) false) → cur.length = m * 2 → (∀ j, j < i → PondC w h m zs cs j (gi cur (j * 2)) (gi cur (j * 2 + 1))) → (∀ j, i * 2 ≤ j → gi cur j = 0) →
      tget T 1 = sv0 → tget T 2 = .pointer (some ⟨X2, 0, none⟩) → tget T 7 = .slice (some ⟨Y, 0, some 2⟩) m m → tget T 25 = sl → tget T 26 = .int .i64 m → tget T 27 = .int .i64 i → W AP KL g rd (.loop body297) ⟨T, D, A⟩ Q := by
  intro k
  have lz : zs.length = m * 2 := by have := hsl.1; simpa using this
  have hcl : cs.length = n := by have := hz.1; simpa using this
  have hE := (seaE_zero hcl h0).1
  obtain ⟨gw, gh, gm, gv⟩ := gridE_parts hE
  have hX2n := Hp.lt_of_get hX2
  induction k with
  | zero =>
    intro i T A cur hi hb hA hc hp hz0 t1 t2 t7 t25 t26 t27
    have : i = m := by omega
    subst this
    rw [W_loop]
    simp (disch := as_aux_lemma => first | omega | simp only [hDs] <;> omega | simp [isCell]) [hRs, takeMarks, resA, resAll, resOne, Value.cells, body297, t26, t27]
    exact hQ _ _ cur hb hA hc hp (by simp [t7])
  | succ k ih =>
    intro i T A cur hi hb hA hc hp hz0 t1 t2 t7 t25 t26 t27
    have e5 : wr .i64 ((i : Int) + 1) = ((i + 1 : Nat) : Int) := by rw [wrId (by omega) (by omega)]; simp
    have hAn := hb.1
    have hYA := Hp.lt_of_get hA
    have hzA := hz.keepB (A' := A) fun z hz' => hb.2 z (hz.blk_lt hz') (hYz z hz')
    have hsA := hsl.keepB (A' := A) fun z hz' => hb.2 z (hsl.blk_lt hz') (hYs z hz')
    obtain ⟨xb, xc, xr, rfl, hxb⟩ := hsA.at (show i < m by omega)
    have hxbn := Hp.lt_of_get hxb
    have a2 : A.get X2 = some (.cells [.int .i64 w, .int .i64 h, .int .i64 s, .slice (some ⟨xb, 0, some 2⟩) m xc] false) := by rw [hb.2 _ hX2n hY2]; exact hX2
    have gvi := gv i (by omega)
    rw [W_loop]
    simp (disch := as_aux_lemma => first | omega | simp only [hDs] <;> omega | simp [isCell]) [hRs, takeMarks, resA, resAll, resOne, Value.cells, body297, t1, t2, t7, t25, t26, t27, show ((i : Int) < m) by omega, show i < m by omega, idxSA_ok, hxb, ints_two, lz, storeB_cells, setRange_all, set_push_eq, a2]
    have f1 := Ext'.push A (.cells [.int .i64 (gi zs (i * 2)), .int .i64 (gi zs (i * 2 + 1))] false)
    refine w324 (up := false) (s := s) hm60 hn (f1.rdS hzA) (f1.rdS hsA) (by simp; omega) h0 (show i < m by omega) fun A1 v1 e1 hv1 => ?_
    have e01 := f1.trans e1
    have n01 := e01.1
    unfold BrinkV at hv1
    by_cases hin : (i : Int) ∈ cs
    · rw [if_pos hin] at hv1
      subst hv1
      simp (disch := as_aux_lemma => first | omega | simp only [hDs] <;> omega | simp [isCell]) [hRs, takeMarks, resA, resAll, resOne, Value.cells, t1, t2, e01.get a2]
      refine w324 (up := true) (s := s) hm60 hn (e01.rdS hzA) (e01.rdS hsA) (by omega) h0 (show i < m by omega) fun A2 v2 e2 hv2 => ?_
      unfold BrinkV at hv2
      rw [if_pos hin] at hv2
      subst hv2
      have e02 := e01.trans e2
      simp (disch := as_aux_lemma => first | omega | simp only [hDs] <;> omega | simp [isCell]) [hRs, takeMarks, resA, resAll, resOne, Value.cells, t27, e5]
      refine ih (i + 1) cur (by omega) (hb.trans (But.of_ext e02)) (e02.get hA) hc (fun j hj => ?_) (fun j hj => hz0 j (by omega)) ?_ ?_ ?_ ?_ ?_ ?_
      · by_cases hji : j = i
        · subst hji
          rw [PondC, if_pos hin]
          exact ⟨hz0 _ (by omega), hz0 _ (by omega)⟩
        · exact hp j (by omega)
      all_goals simp [t1, t2, t7, t25, t26]
    · rw [if_neg hin] at hv1
      obtain ⟨ol, s1, rfl⟩ := hv1
      simp (disch := as_aux_lemma => first | omega | simp only [hDs] <;> omega | simp [isCell]) [hRs, takeMarks, resA, resAll, resOne, Value.cells, t1, t2, e01.get a2]
      refine w324 (up := true) (s := s) hm60 hn (e01.rdS hzA) (e01.rdS hsA) (by omega) h0 (show i < m by omega) fun A2 v2 e2 hv2 => ?_
      unfold BrinkV at hv2
      rw [if_neg hin] at hv2
      obtain ⟨oh, s2, rfl⟩ := hv2
      have e02 := e01.trans e2
      have n02 := e02.1
      have b9 : A2.get A.n = some (.cells [.int .i64 (gi zs (i * 2)), .int .i64 (gi zs (i * 2 + 1))] false) := (e1.trans e2).get get_push_new
      have r1 := leastL_rng (o := ol) (fun c => s1.rng c) (nbrs w h i)
      have r2 := leastL_rng (o := oh) (fun c => s2.rng c) (nbrs w h i)
      have u1 : wr .i64 (leastL ol (nbrs w h i) - gi zs (i * 2 + 1)) = leastL ol (nbrs w h i) - gi zs (i * 2 + 1) := wrId (by omega) (by omega)
      have u2 : wr .i64 (leastL oh (nbrs w h i) - gi zs (i * 2)) = leastL oh (nbrs w h i) - gi zs (i * 2) := wrId (by omega) (by omega)
      have hA2 := e02.get hA
      simp (disch := as_aux_lemma => first | omega | simp only [hDs] <;> omega | simp [isCell]) [hRs, takeMarks, resA, resAll, resOne, Value.cells, t7, t27, e5, b9, u1, u2, fillA, setRange, idxSA_ok, show i < m by omega, storeB_cells, hA2, hc]
      have e6 : ∀ a b : Int, List.take (i * 2) (ints cur) ++ .int .i64 a :: .int .i64 b :: List.drop (i * 2 + 2) (ints cur) = ints ((cur.set (i * 2) a).set (i * 2 + 1) b) := fun a b => by
        rw [← setRange_two (by omega)]; simp [setRange]
      rw [e6]
      refine ih (i + 1) _ (by omega) (hb.trans (But.set hYA e02)) (get_set_same hA2) (by simp [hc]) (fun j hj => ?_) (fun j hj => ?_) ?_ ?_ ?_ ?_ ?_ ?_
      · by_cases hji : j = i
        · subst hji
          rw [gi_setI (by simp; omega), if_neg (by omega), gi_setI (by omega), if_pos rfl, gi_setI (by simp; omega), if_pos rfl, PondC, if_neg hin]
          exact ⟨ol, oh, s1, s2, rfl, rfl⟩
        · rw [gi_setI (by simp; omega), if_neg (by omega), gi_setI (by omega), if_neg (by omega), gi_setI (by simp; omega), if_neg (by omega), gi_setI (by omega), if_neg (by omega)]
          exact hp j (by omega)
      · rw [gi_setI (by simp; omega), if_neg (by omega), gi_setI (by omega), if_neg (by omega)]
        exact hz0 j (by omega)
      all_goals simp [t1, t2, t7, t25, t26]
def PondV (A : Hp) (w h s : Int) (m : Nat) (zs : List Int) (n : Nat) (cs : List Int) (N : Nat) (sv : Value) (e : Int) : Prop :=
  e = seaE w h s m zs n cs ∧ if e = 0 then ∃ ps : List Int, ps.length = m * 2 ∧ (∀ j, j < m → PondC w h m zs cs j (gi ps (j * 2)) (gi ps (j * 2 + 1))) ∧ RdS A 2 m (ints ps) sv ∧ ∀ b, blkOf sv = some b → N ≤ b else sv = .slice none 0 0
theorem w297 {w h s : Int} {zs cs : List Int} {sl sv0 : Value} {m n : Nat} (hm60 : m ≤ 60) (hn : n < 1000000) (hz : RdS A 1 n (ints cs) sv0) (hsl : RdS A 2 m (ints zs) sl) (hg : g ≤ A.n)
    (hV : ∀ A' sv e, Ext' A A' → PondV A' w h s m zs n cs A.n sv e → V (.tuple ⟨[sv, .int .i64 e]⟩) A') : WF AP KL g 297 [gridV w h s sl, sv0] A V := by
  rw [WF_body (show KL 297 = none from rfl) (show AP 297 = some F297 from rfl)]
  obtain ⟨B, hB⟩ : ∃ B, B = A.push (.cells [.int .i64 w, .int .i64 h, .int .i64 s, sl] false) := ⟨_, rfl⟩
  have eB : Ext' A B := by rw [hB]; exact Ext'.push _ _
  have nB : B.n = A.n + 1 := by rw [hB]; rfl
  have b2 : B.get A.n = some (.cells [.int .i64 w, .int .i64 h, .int .i64 s, sl] false) := by rw [hB]; exact get_push_new
  have hl := hsl.len
  simp (disch := as_aux_lemma => first | omega | simp only [hDs] <;> omega | simp [isCell]) [hRs, takeMarks, resA, resAll, resOne, Value.cells, F297, gridV, ← hB, b2]
  refine w266 (by omega) hn (eB.rdS hz) (eB.rdS hsl) fun A1 e1 => ?_
  have e01 := eB.trans e1
  have n1 := e1.1
  by_cases h0 : seaE w h s m zs n cs = 0
  · simp (disch := as_aux_lemma => first | omega | simp only [hDs] <;> omega | simp [isCell]) [hRs, takeMarks, resA, resAll, resOne, Value.cells, h0, e1.get b2, hl, makeS2_ok (n := m) (by omega)]
    obtain ⟨C, hC⟩ : ∃ C, C = A1.push (.cells (ints (List.replicate (m * 2) 0)) false) := ⟨_, rfl⟩
    rw [← hC]
    have eC : Ext' A1 C := by rw [hC]; exact Ext'.push _ _
    have nC : C.n = A1.n + 1 := by rw [hC]; rfl
    have cY : C.get A1.n = some (.cells (ints (List.replicate (m * 2) 0)) false) := by rw [hC]; exact get_push_new
    refine loop297 (A0 := C) (X2 := A.n) (Y := A1.n) (w := w) (h := h) (s := s) (zs := zs) (cs := cs) (sl := sl) (sv0 := sv0) hm60 hn ((e01.trans eC).rdS hz) ((e01.trans eC).rdS hsl) (by omega) h0 ((e1.trans eC).get b2) (by omega) (fun z hz' => by have := hz.blk_lt hz'; omega) (fun z hz' => by have := hsl.blk_lt hz'; omega) (by omega)
      (fun T' A' cur hb hA' hc hp t7 => ?_) m 0 (List.replicate (m * 2) 0) (by omega) (But.of_ext ⟨Nat.le_refl _, fun _ _ => rfl⟩) cY (by simp) (fun j hj => by omega) (fun j _ => ?_) ?_ ?_ ?_ ?_ ?_ ?_
    · simp (disch := as_aux_lemma => first | omega | simp only [hDs] <;> omega | simp [isCell]) [hRs, takeMarks, resA, resAll, resOne, Value.cells, t7]
      have hn' := hb.1
      refine hV A' _ 0 ⟨by omega, fun z hz' => by rw [hb.2 z (by omega) (by omega), (e01.trans eC).2 z hz']⟩ ⟨h0.symm, ?_⟩
      rw [if_pos rfl]
      refine ⟨cur, hc, hp, ⟨by simp [hc], .inr ⟨A1.n, m, false, rfl, hA'⟩⟩, fun b hb' => ?_⟩
      have : A1.n = b := by simpa [blkOf] using hb'
      omega
    · unfold gi
      by_cases hj : j < m * 2
      · simp [List.getD, hj]
      · simp [List.getD, hj]
    all_goals simp [hl]
  · simp (disch := as_aux_lemma => first | omega | simp only [hDs] <;> omega | simp [isCell]) [hRs, takeMarks, resA, resAll, resOne, Value.cells, h0]
    refine hV A1 _ _ e01 ⟨rfl, ?_⟩
    rw [if_neg h0]
end
end Go.Ab.Grid
set_option maxRecDepth 100000
namespace Go.Ab.Grid
open Go Go.Ab
def mz (xs ys : List Int) : Nat → List Int
  | 0 => xs
  | i + 1 => wset (mz xs ys i) i (gi ys (i * 2)) (gi ys (i * 2 + 1))
theorem mz_len {xs ys : List Int} : ∀ {i : Nat}, (mz xs ys i).length = xs.length
  | 0 => rfl
  | i + 1 => by rw [mz]; unfold wset; simp [mz_len (i := i)]
theorem mz_get {xs ys : List Int} {m j : Nat} (hx : xs.length = m * 2) : ∀ {i : Nat}, i ≤ m → j < m →
    gi (mz xs ys i) (j * 2) = (if j < i then max (gi xs (j * 2)) (gi ys (j * 2)) else gi xs (j * 2)) ∧ gi (mz xs ys i) (j * 2 + 1) = if j < i then min (gi xs (j * 2 + 1)) (gi ys (j * 2 + 1)) else gi xs (j * 2 + 1)
  | 0, _, _ => by simp [mz]
  | i + 1, hi, hj => by
    obtain ⟨a, b⟩ := mz_get (ys := ys) (j := j) hx (i := i) (by omega) hj
    obtain ⟨c, d⟩ := mz_get (ys := ys) (j := i) hx (i := i) (by omega) (by omega)
    have hl : (mz xs ys i).length = m * 2 := by rw [mz_len, hx]
    rw [mz, wset_lo (by omega), wset_hi (by omega)]
    by_cases h : j = i
    · subst h
      rw [if_neg (by omega)] at c d
      rw [if_pos rfl, if_pos rfl, c, d, if_pos (Nat.lt_succ_self _), if_pos (Nat.lt_succ_self _)]
      exact ⟨rfl, rfl⟩
    · rw [if_neg h, if_neg h, a, b]
      by_cases h2 : j < i
      · rw [if_pos h2, if_pos h2, if_pos (by omega), if_pos (by omega)]; exact ⟨rfl, rfl⟩
      · rw [if_neg h2, if_neg h2, if_neg (by omega), if_neg (by omega)]; exact ⟨rfl, rfl⟩
def Fit (xs ys : List Int) (j : Nat) : Prop := max (gi xs (j * 2)) (gi ys (j * 2)) ≤ min (gi xs (j * 2 + 1)) (gi ys (j * 2 + 1))
theorem Fit.comm {xs ys : List Int} {j : Nat} (h : Fit xs ys j) : Fit ys xs j := by
  unfold Fit at h ⊢; omega
theorem mz_comm {xs ys : List Int} {m : Nat} (hx : xs.length = m * 2) (hy : ys.length = m * 2) : mz xs ys m = mz ys xs m := by
  refine list_gi (by rw [mz_len, mz_len, hx, hy]) fun i hi => ?_
  rw [mz_len, hx] at hi
  obtain ⟨j, hj⟩ : ∃ j, i = j * 2 ∨ i = j * 2 + 1 := ⟨i / 2, by omega⟩
  rcases hj with rfl | rfl
  · rw [(mz_get (j := j) hx (Nat.le_refl m) (by omega)).1, (mz_get (j := j) hy (Nat.le_refl m) (by omega)).1, if_pos (by omega), if_pos (by omega)]
    omega
  · rw [(mz_get (j := j) hx (Nat.le_refl m) (by omega)).2, (mz_get (j := j) hy (Nat.le_refl m) (by omega)).2, if_pos (by omega), if_pos (by omega)]
    omega
theorem goM_mz {xs ys : List Int} {m : Nat} (hx : xs.length = m * 2) : ∀ (k i : Nat), i + k = m → (∀ j, j < i → Fit xs ys j) →
    (goM (narStep ys) k i (mz xs ys i) = .ok (mz xs ys m) ∧ ∀ j, j < m → Fit xs ys j) ∨ (∃ i', i' < m ∧ goM (narStep ys) k i (mz xs ys i) = .error i' ∧ ¬ Fit xs ys i' ∧ ∀ j, j < i' → Fit xs ys j) := by
  intro k
  induction k with
  | zero =>
    intro i hi hf
    have : i = m := by omega
    subst this
    exact .inl ⟨rfl, hf⟩
  | succ k ih =>
    intro i hi hf
    obtain ⟨a, b⟩ := mz_get (ys := ys) (j := i) hx (i := i) (by omega) (by omega)
    rw [if_neg (by omega)] at a b
    by_cases h : Fit xs ys i
    · have hs : goM (narStep ys) (k + 1) i (mz xs ys i) = goM (narStep ys) k (i + 1) (mz xs ys (i + 1)) := by
        rw [goM, narStep, meetZ, a, b, if_pos (show max (gi xs (i * 2)) (gi ys (i * 2)) ≤ min (gi xs (i * 2 + 1)) (gi ys (i * 2 + 1)) from h), mz, wset, a, b]
      rw [hs]
      exact ih (i + 1) (by omega) fun j hj => by
        by_cases hji : j = i
        · subst hji; exact h
        · exact hf j (by omega)
    · refine .inr ⟨i, by omega, ?_, h, hf⟩
      rw [goM, narStep, meetZ, a, b, if_neg (show ¬ max (gi xs (i * 2)) (gi ys (i * 2)) ≤ min (gi xs (i * 2 + 1)) (gi ys (i * 2 + 1)) from h)]
theorem nar_two {x y : G} (hx : x.E = 0) (hy : y.E = 0) (hw : x.w = y.w) (hh : x.h = y.h) (hs : x.s = y.s) (hm : x.m = y.m) (lx : x.zs.length = x.m * 2) (ly : y.zs.length = x.m * 2) :
    (narF x y = ({ x with zs := mz x.zs y.zs x.m }, 0, 0) ∧ narF y x = ({ x with zs := mz x.zs y.zs x.m }, 0, 0) ∧ ∀ j, j < x.m → Fit x.zs y.zs j) ∨ (∃ i : Nat, i < x.m ∧ narF x y = (G0, (i : Int), 14) ∧ narF y x = (G0, (i : Int), 14) ∧ ¬ Fit x.zs y.zs i) := by
  have s1 : sameSides x y = true := by simp [sameSides, hw, hh, hs]
  have s2 : sameSides y x = true := by simp [sameSides, hw, hh, hs]
  have e1 : narF x y = outG x (goM (narStep y.zs) x.m 0 (mz x.zs y.zs 0)) := by rw [narF, if_pos hx, if_pos hy, if_pos s1, ← hm]; rfl
  have e2 : narF y x = outG y (goM (narStep x.zs) x.m 0 (mz y.zs x.zs 0)) := by rw [narF, if_pos hx, if_pos hy, if_pos s2]; rfl
  rcases goM_mz (ys := y.zs) lx x.m 0 (by omega) (fun j hj => by omega) with ⟨h1, h2⟩ | ⟨i, hi, h1, h2, h3⟩
  · rcases goM_mz (ys := x.zs) ly x.m 0 (by omega) (fun j hj => by omega) with ⟨g1, g2⟩ | ⟨i', hi', g1, g2, g3⟩
    · refine .inl ⟨by rw [e1, h1]; rfl, ?_, h2⟩
      rw [e2, g1, mz_comm ly lx]
      show (({ y with zs := mz x.zs y.zs x.m } : G), (0 : Int), (0 : Int)) = _
      have : ({ y with zs := mz x.zs y.zs x.m } : G) = { x with zs := mz x.zs y.zs x.m } := by
        rcases x with ⟨w, h, s, m, zs⟩
        rcases y with ⟨w', h', s', m', zs'⟩
        simp only at hw hh hs hm
        subst hw; subst hh; subst hs; subst hm
        rfl
      rw [this]
    · exact absurd (h2 i' hi').comm g2
  · rcases goM_mz (ys := x.zs) ly x.m 0 (by omega) (fun j hj => by omega) with ⟨g1, g2⟩ | ⟨i', hi', g1, g2, g3⟩
    · exact absurd (g2 i hi).comm h2
    · have : i = i' := by
        rcases Nat.lt_trichotomy i i' with h | h | h
        · exact absurd (g3 i h).comm h2
        · exact h
        · exact absurd (h3 i' h).comm g2
      subst this
      exact .inr ⟨i, hi, by rw [e1, h1]; rfl, by rw [e2, g1]; rfl, h2⟩
theorem leastL_mono {o o' : List Int} {l : List Int} (h : ∀ d, d ∈ l → gi o d.toNat ≤ gi o' d.toNat) : leastL o l ≤ leastL o' l := by
  unfold leastL
  have key : ∀ (l : List Int), (∀ d, d ∈ l → gi o d.toNat ≤ gi o' d.toNat) → ∀ a a' : Int, a ≤ a' → l.foldl (fun a d => min a (gi o d.toNat)) a ≤ l.foldl (fun a d => min a (gi o' d.toNat)) a' := by
    intro l
    induction l with
    | nil => intro _ a a' h; exact h
    | cons x l ih =>
      intro hl a a' ha
      simp only [List.foldl_cons]
      have := hl x (List.mem_cons_self ..)
      exact ih (fun d hd => hl d (List.mem_cons_of_mem _ hd)) _ _ (by omega)
  exact key l h _ _ (Int.le_refl _)
section
variable {w h s s' : Int} {m : Nat} {zs zs' : List Int} {sea : List Nat}
theorem sp_mono {up up' : Bool} {bar : Option Nat} {o o' : List Int} (hE : gridE w h s m zs = 0) (hE' : gridE w h s' m zs' = 0) (hm : m ≤ 60) (hsea : ∀ c, c ∈ sea → c < m) (hh : ∀ c, c < m → gi zs (c * 2 + upN up) ≤ gi zs' (c * 2 + upN up'))
    (h1 : SFin (sPar up bar w h m zs sea) o) (h2 : SFin (sPar up' bar w h m zs' sea) o') {c : Nat} (hc : c < m) : gi o c ≤ gi o' c :=
  SFin.mono (sPar_line hE hm hsea).ok (sPar_line hE' hm hsea).ok rfl rfl (fun _ _ => rfl) (fun c hc => by
    show (if some c = bar then (1073741824 : Int) else _) ≤ if some c = bar then (1073741824 : Int) else _
    split
    · exact Int.le_refl _
    · exact hh c hc) h1 h2 hc
theorem PondC.mono {cs : List Int} {i : Nat} {a b a' b' : Int} (hE : gridE w h s m zs = 0) (hE' : gridE w h s' m zs' = 0) (hm : m ≤ 60) (hsea : ∀ c, c ∈ seaN cs → c < m)
    (hh : ∀ j, j < m → gi zs (j * 2) ≤ gi zs' (j * 2) ∧ gi zs' (j * 2) ≤ gi zs' (j * 2 + 1) ∧ gi zs' (j * 2 + 1) ≤ gi zs (j * 2 + 1)) (hi : i < m) (h1 : PondC w h m zs cs i a b) (h2 : PondC w h m zs' cs i a' b') : a ≤ a' ∧ b' ≤ b ∧ a' ≤ b' := by
  unfold PondC at h1 h2
  by_cases hin : (i : Int) ∈ cs
  · rw [if_pos hin] at h1 h2; omega
  · rw [if_neg hin] at h1 h2
    obtain ⟨ol, oh, f1, f2, e1, e2⟩ := h1
    obtain ⟨ol', oh', f1', f2', e1', e2'⟩ := h2
    have hnb : ∀ d, d ∈ nbrs w h i → d.toNat < m := fun d hd => (sPar_line (up := false) (bar := none) hE hm hsea).ok.nb i hi d.toNat (List.mem_map_of_mem hd)
    have a1 := leastL_mono fun d hd => sp_mono (up := false) (up' := false) hE hE' hm hsea (fun c hc => (hh c hc).1) f1 f1' (hnb d hd)
    have a2 := leastL_mono fun d hd => sp_mono (up := true) (up' := true) hE' hE hm hsea (fun c hc => (hh c hc).2.2) f2' f2 (hnb d hd)
    have a3 := leastL_mono fun d hd => sp_mono (up := false) (up' := true) hE' hE' hm hsea (fun c hc => (hh c hc).2.1) f1' f2' (hnb d hd)
    have := hh i hi
    omega
end
structure Met (x y : G) (Z : List Int) : Prop where
  len : Z.length = x.m * 2
  at_ : ∀ j, j < x.m → gi Z (j * 2) = max (gi x.zs (j * 2)) (gi y.zs (j * 2)) ∧ gi Z (j * 2 + 1) = min (gi x.zs (j * 2 + 1)) (gi y.zs (j * 2 + 1)) ∧ gi Z (j * 2) ≤ gi Z (j * 2 + 1)
theorem Met.of {x y : G} (lx : x.zs.length = x.m * 2) (h : ∀ j, j < x.m → Fit x.zs y.zs j) : Met x y (mz x.zs y.zs x.m) :=
  ⟨by rw [mz_len, lx], fun j hj => by
    obtain ⟨a, b⟩ := mz_get (ys := y.zs) lx (Nat.le_refl _) hj
    rw [if_pos hj] at a b
    have := h j hj
    unfold Fit at this
    rw [a, b]
    exact ⟨rfl, rfl, this⟩⟩
theorem Met.E {L : Land} {y : G} {Z : List Int} (hO : L.Ok) (h : Met L.G y Z) : gridE L.w L.h 100 L.n Z = 0 := by
  have hw := hO.w
  have hh := hO.h
  have hn := hO.n
  refine gridE_d ?_ (by rw [← hn.1]; exact (wrId (by omega) (by omega)).symm) ?_
  · rw [show (decide (1 ≤ L.w) && decide (L.w ≤ 24)) = true by simp; omega, show (decide (1 ≤ L.h) && decide (L.h ≤ 24)) = true by simp; omega]
    decide
  · rw [List.any_eq_false]
    intro j hj
    rw [List.mem_range] at hj
    obtain ⟨a, b⟩ := Land.zs_get (L := L) hj
    obtain ⟨c, d, e⟩ := h.at_ j hj
    have r := hO.rng j
    rw [show L.G.zs = L.zs L.n from rfl, a] at c
    rw [show L.G.zs = L.zs L.n from rfl, b] at d
    have : grd Z j = true := by
      unfold grd validB
      simp
      omega
    rw [this]
    decide
end Go.Ab.Grid
set_option maxRecDepth 100000
namespace Go.Ab.Grid
open Go Go.Ab
def gQ (l : List Bool) (i : Nat) : Bool := l.getD i false
theorem gQ_get {l : List Bool} {i : Nat} (h : i < l.length) : cellAt (bools l) i = some (.bool (gQ l i)) := by simp [bools, cellAt, gQ, h]
theorem gQ_rep {m c : Nat} : gQ (List.replicate m false) c = false := by
  unfold gQ
  rw [List.getD_eq_getElem?_getD, List.getElem?_replicate]
  split <;> rfl
structure WetI (P : SPar) (lv : Int) (out : List Bool) (q : List Nat) (cur : Option (Nat × List Nat)) (ss : List Nat) : Prop where
  len : out.length = P.m
  snd : ∀ c, c < P.m → gQ out c = true → ∃ v, v < lv ∧ P.Der c v
  qin : ∀ c, c ∈ q → c < P.m ∧ gQ out c = true
  sea : ∀ c, c ∈ ss → P.ht c < lv → gQ out c = true
  cl : ∀ a, a < P.m → gQ out a = true → a ∈ q ∨ (∃ dn, cur = some (a, dn) ∧ ∀ d, d ∈ dn → P.ht d < lv → gQ out d = true) ∨ (∀ d, d ∈ P.nb a → P.ht d < lv → gQ out d = true)
theorem WetI.start {P : SPar} {lv : Int} : WetI P lv (List.replicate P.m false) [] none [] :=
  ⟨by simp, fun c _ h => absurd h (by rw [gQ_rep]; decide), fun c h => absurd h (by simp), fun c h => absurd h (by simp), fun a _ h => absurd h (by rw [gQ_rep]; decide)⟩
theorem WetI.seaOne {P : SPar} {lv : Int} {out : List Bool} {q ss : List Nat} {c : Nat} (h : WetI P lv out q none ss) (hc : P.ht c < lv → gQ out c = true) : WetI P lv out q none (ss ++ [c]) :=
  ⟨h.len, h.snd, h.qin, fun d hd hh => by
    rcases List.mem_append.1 hd with h1 | h1
    · exact h.sea d h1 hh
    · rw [List.mem_singleton] at h1; subst h1; exact hc hh, h.cl⟩
theorem WetI.take {P : SPar} {lv : Int} {out : List Bool} {q ss : List Nat} {c : Nat} (h : WetI P lv out (c :: q) none ss) : WetI P lv out q (some (c, [])) ss :=
  ⟨h.len, h.snd, fun d hd => h.qin d (List.mem_cons_of_mem _ hd), h.sea, fun a ha hg => by
    rcases h.cl a ha hg with h1 | ⟨dn, h1, _⟩ | h1
    · rcases List.mem_cons.1 h1 with h2 | h2
      · subst h2; exact .inr (.inl ⟨[], rfl, fun d hd => by cases hd⟩)
      · exact .inl h2
    · cases h1
    · exact .inr (.inr h1)⟩
theorem WetI.doneOne {P : SPar} {lv : Int} {out : List Bool} {q ss : List Nat} {c d : Nat} {dn : List Nat} (h : WetI P lv out q (some (c, dn)) ss) (hd : P.ht d < lv → gQ out d = true) : WetI P lv out q (some (c, dn ++ [d])) ss :=
  ⟨h.len, h.snd, h.qin, h.sea, fun a ha hg => by
    rcases h.cl a ha hg with h1 | ⟨dn', h1, h2⟩ | h1
    · exact .inl h1
    · cases h1
      refine .inr (.inl ⟨_, rfl, fun e he hh => ?_⟩)
      rcases List.mem_append.1 he with h3 | h3
      · exact h2 e h3 hh
      · rw [List.mem_singleton] at h3; subst h3; exact hd hh
    · exact .inr (.inr h1)⟩
theorem WetI.shut {P : SPar} {lv : Int} {out : List Bool} {q ss : List Nat} {c : Nat} {dn : List Nat} (h : WetI P lv out q (some (c, dn)) ss) (hdn : ∀ d, d ∈ P.nb c → d ∈ dn) : WetI P lv out q none ss :=
  ⟨h.len, h.snd, h.qin, h.sea, fun a ha hg => by
    rcases h.cl a ha hg with h1 | ⟨dn', h1, h2⟩ | h1
    · exact .inl h1
    · cases h1; exact .inr (.inr fun d hd hh => h2 d (hdn d hd) hh)
    · exact .inr (.inr h1)⟩
theorem WetI.fin {P : SPar} {lv : Int} {out : List Bool} {o : List Int} (hP : SParOk P) (h : WetI P lv out [] none P.sea) (ho : SFin P o) (hlv : lv ≤ 1073741824) {c : Nat} (hc : c < P.m) : gQ out c = decide (gi o c < lv) := by
  have up : ∀ {a : Nat} {v : Int}, P.Der a v → v < lv → gQ out a = true := by
    intro a v hd
    induction hd with
    | base hs => intro hv; exact h.sea _ hs (by omega)
    | step h1 h2 ih =>
      intro hv
      have ha := h1.lt hP
      rcases h.cl _ ha (ih (by omega)) with h3 | ⟨_, h3, _⟩ | h3
      · cases h3
      · cases h3
      · exact h3 _ h2 (by omega)
  by_cases hg : gQ out c = true
  · obtain ⟨v, hv, hd⟩ := h.snd c hc hg
    have := ho.least hP hd
    rw [hg]
    simp
    omega
  · have : ¬ gi o c < lv := fun hlt => by
      rcases ho.out c hc with h1 | h1
      · rw [h1] at hlt; unfold noneV at hlt; omega
      · exact hg (up h1 hlt)
    simp [hg, this]
end Go.Ab.Grid
set_option maxRecDepth 100000
namespace Go.Ab.Grid
open Go Go.Ab
def Wi (a b : List Int) (j : Nat) : Prop := gi b (j * 2) ≤ gi a (j * 2) ∧ gi a (j * 2 + 1) ≤ gi b (j * 2 + 1) ∧ gi a (j * 2) ≤ gi a (j * 2 + 1)
structure FewR where
  w : Int
  h : Int
  s : Int
  m : Nat
  zg : List Int
  zh : List Int
  zn : List Int
  la : List Int
  lb : List Int
  lp : List Int
  lq : List Int
  ls : List Bool
  lt : List Bool
  lu : List Bool
  ly : List Bool
structure FewI (r : FewR) : Prop where
  m : r.m < 1000000
  g : ∀ j, j < r.m → Wi r.zn r.zg j
  h : ∀ j, j < r.m → Wi r.zn r.zh j
  a : ∀ j, j < r.m → Wi r.lb r.la j
  p : ∀ j, j < r.m → Wi r.lq r.lp j
  su : ∀ j, j < r.m → gQ r.ls j = true → gQ r.lu j = true
  yt : ∀ j, j < r.m → gQ r.ly j = true → gQ r.lt j = true
section
variable {g : Nat} {rd : Option Nat} {T : List Value} {D : List Nat} {A : Hp} {Q : Ex → St → Prop} {V : Value → Hp → Prop}
theorem loop285 {A0 : Hp} {r : FewR} {X11 X12 X13 : Nat} {s11 s12 s13 s21 s22 s23 s24 s25 s26 s28 s29 : Value} (hI : FewI r)
    (h11 : A0.get X11 = some (.cells [.int .i64 r.w, .int .i64 r.h, .int .i64 r.s, s11] false)) (h12 : A0.get X12 = some (.cells [.int .i64 r.w, .int .i64 r.h, .int .i64 r.s, s12] false)) (h13 : A0.get X13 = some (.cells [.int .i64 r.w, .int .i64 r.h, .int .i64 r.s, s13] false))
    (r11 : RdS A0 2 r.m (ints r.zg) s11) (r12 : RdS A0 2 r.m (ints r.zh) s12) (r13 : RdS A0 2 r.m (ints r.zn) s13) (r21 : RdS A0 2 r.m (ints r.la) s21) (r22 : RdS A0 2 r.m (ints r.lb) s22) (r23 : RdS A0 2 r.m (ints r.lp) s23) (r24 : RdS A0 2 r.m (ints r.lq) s24)
    (r25 : RdS A0 1 r.m (bools r.ls) s25) (r26 : RdS A0 1 r.m (bools r.lt) s26) (r28 : RdS A0 1 r.m (bools r.lu) s28) (r29 : RdS A0 1 r.m (bools r.ly) s29)
    (hQ : ∀ T' A', Ext' A0 A' → Q (.exit 0) ⟨T', D, A'⟩) :
    ∀ (k i : Nat) {T : List Value} {A : Hp}, i + k = r.m → Ext' A0 A → tget T 11 = .pointer (some ⟨X11, 0, none⟩) → tget T 12 = .pointer (some ⟨X12, 0, none⟩) → tget T 13 = .pointer (some ⟨X13, 0, none⟩) → tget T 21 = s21 → tget T 22 = s22 → tget T 23 = s23 → tget T 24 = s24 → tget T 25 = s25 → tget T 26 = s26 → tget T 28 = s28 → tget T 29 = s29 →
      tget T 245 = .int .i64 r.m → tget T 246 = .int .i64 i → W AP KL g rd (.loop body285) ⟨T, D, A⟩ Q := by
  intro k
  have hm := hI.m
  have l11 : r.zg.length = r.m * 2 := by have := r11.1; simpa using this
  have l12 : r.zh.length = r.m * 2 := by have := r12.1; simpa using this
  have l13 : r.zn.length = r.m * 2 := by have := r13.1; simpa using this
  have l21 : r.la.length = r.m * 2 := by have := r21.1; simpa using this
  have l22 : r.lb.length = r.m * 2 := by have := r22.1; simpa using this
  have l23 : r.lp.length = r.m * 2 := by have := r23.1; simpa using this
  have l24 : r.lq.length = r.m * 2 := by have := r24.1; simpa using this
  have l25 : r.ls.length = r.m := by have := r25.1; simpa using this
  have l26 : r.lt.length = r.m := by have := r26.1; simpa using this
  have l28 : r.lu.length = r.m := by have := r28.1; simpa using this
  have l29 : r.ly.length = r.m := by have := r29.1; simpa using this
  induction k with
  | zero =>
    intro i T A hi e t11 t12 t13 t21 t22 t23 t24 t25 t26 t28 t29 t245 t246
    rw [W_loop]
    simp (disch := as_aux_lemma => first | omega | simp only [hDs] <;> omega | simp [isCell]) [hRs, takeMarks, resA, resAll, resOne, Value.cells, body285, t245, t246, show ¬ ((i : Int) < r.m) by omega]
    exact hQ _ _ e
  | succ k ih =>
    intro i T A hi e t11 t12 t13 t21 t22 t23 t24 t25 t26 t28 t29 t245 t246
    have hi' : i < r.m := by omega
    have e5 : wr .i64 ((i : Int) + 1) = ((i + 1 : Nat) : Int) := by rw [wrId (by omega) (by omega)]; simp
    obtain ⟨b11, c11, q11, rfl, g11⟩ := r11.at hi'
    obtain ⟨b12, c12, q12, rfl, g12⟩ := r12.at hi'
    obtain ⟨b13, c13, q13, rfl, g13⟩ := r13.at hi'
    obtain ⟨b21, c21, q21, hs21, g21⟩ := r21.at hi'
    obtain ⟨b22, c22, q22, hs22, g22⟩ := r22.at hi'
    obtain ⟨b23, c23, q23, hs23, g23⟩ := r23.at hi'
    obtain ⟨b24, c24, q24, hs24, g24⟩ := r24.at hi'
    obtain ⟨b25, c25, q25, hs25, g25⟩ := r25.at hi'
    obtain ⟨b26, c26, q26, hs26, g26⟩ := r26.at hi'
    obtain ⟨b28, c28, q28, hs28, g28⟩ := r28.at hi'
    obtain ⟨b29, c29, q29, hs29, g29⟩ := r29.at hi'
    have u21 := t21.trans hs21
    have u22 := t22.trans hs22
    have u23 := t23.trans hs23
    have u24 := t24.trans hs24
    have u25 := t25.trans hs25
    have u26 := t26.trans hs26
    have u28 := t28.trans hs28
    have u29 := t29.trans hs29
    rw [W_loop]
    simp (disch := as_aux_lemma => first | omega | simp only [hDs] <;> omega | simp [isCell]) [hRs, takeMarks, resA, resAll, resOne, Value.cells, body285, t11, t13, t245, t246, show ((i : Int) < r.m) by omega, hi', idxSA_ok, e.get h11, e.get h13, e.get g11, e.get g13, ints_two, l11, l13]
    refine w314 (hI.g i hi') fun A1 e1 => ?_
    have f1 := e.trans e1
    simp (disch := as_aux_lemma => first | omega | simp only [hDs] <;> omega | simp [isCell]) [hRs, takeMarks, resA, resAll, resOne, Value.cells, t12, t13, hi', idxSA_ok, f1.get h12, f1.get h13, f1.get g12, f1.get g13, ints_two, l12, l13]
    refine w314 (hI.h i hi') fun A2 e2 => ?_
    have f2 := f1.trans e2
    simp (disch := as_aux_lemma => first | omega | simp only [hDs] <;> omega | simp [isCell]) [hRs, takeMarks, resA, resAll, resOne, Value.cells, u21, u22, hi', idxSA_ok, f2.get g21, f2.get g22, ints_two, l21, l22]
    refine w314 (hI.a i hi') fun A3 e3 => ?_
    have f3 := f2.trans e3
    simp (disch := as_aux_lemma => first | omega | simp only [hDs] <;> omega | simp [isCell]) [hRs, takeMarks, resA, resAll, resOne, Value.cells, u23, u24, hi', idxSA_ok, f3.get g23, f3.get g24, ints_two, l23, l24]
    refine w314 (hI.p i hi') fun A4 e4 => ?_
    have f4 := f3.trans e4
    have x25 := gQ_get (l := r.ls) (i := i) (by omega)
    have x26 := gQ_get (l := r.lt) (i := i) (by omega)
    have x28 := gQ_get (l := r.lu) (i := i) (by omega)
    have x29 := gQ_get (l := r.ly) (i := i) (by omega)
    have hsu := hI.su i hi'
    have hyt := hI.yt i hi'
    cases q1 : gQ r.ls i <;> cases q2 : gQ r.ly i
    · simp (disch := as_aux_lemma => first | omega | simp only [hDs] <;> omega | simp [isCell]) [hRs, takeMarks, resA, resAll, resOne, Value.cells, t246, u25, u26, u28, u29, hi', idxSA_ok, f4.get g25, f4.get g26, f4.get g28, f4.get g29, x25, x26, x28, x29, q1, q2, e5]
      refine ih (i + 1) (by omega) f4 ?_ ?_ ?_ ?_ ?_ ?_ ?_ ?_ ?_ ?_ ?_ ?_ ?_
      all_goals simp [t11, t12, t13, t21, t22, t23, t24, t25, t26, t28, t29, t245]
    · have q3 := hyt q2
      simp (disch := as_aux_lemma => first | omega | simp only [hDs] <;> omega | simp [isCell]) [hRs, takeMarks, resA, resAll, resOne, Value.cells, t246, u25, u26, u28, u29, hi', idxSA_ok, f4.get g25, f4.get g26, f4.get g28, f4.get g29, x25, x26, x28, x29, q1, q2, q3, e5]
      refine ih (i + 1) (by omega) f4 ?_ ?_ ?_ ?_ ?_ ?_ ?_ ?_ ?_ ?_ ?_ ?_ ?_
      all_goals simp [t11, t12, t13, t21, t22, t23, t24, t25, t26, t28, t29, t245]
    · have q4 := hsu q1
      simp (disch := as_aux_lemma => first | omega | simp only [hDs] <;> omega | simp [isCell]) [hRs, takeMarks, resA, resAll, resOne, Value.cells, t246, u25, u26, u28, u29, hi', idxSA_ok, f4.get g25, f4.get g26, f4.get g28, f4.get g29, x25, x26, x28, x29, q1, q2, q4, e5]
      refine ih (i + 1) (by omega) f4 ?_ ?_ ?_ ?_ ?_ ?_ ?_ ?_ ?_ ?_ ?_ ?_ ?_
      all_goals simp [t11, t12, t13, t21, t22, t23, t24, t25, t26, t28, t29, t245]
    · have q3 := hyt q2
      have q4 := hsu q1
      simp (disch := as_aux_lemma => first | omega | simp only [hDs] <;> omega | simp [isCell]) [hRs, takeMarks, resA, resAll, resOne, Value.cells, t246, u25, u26, u28, u29, hi', idxSA_ok, f4.get g25, f4.get g26, f4.get g28, f4.get g29, x25, x26, x28, x29, q1, q2, q3, q4, e5]
      refine ih (i + 1) (by omega) f4 ?_ ?_ ?_ ?_ ?_ ?_ ?_ ?_ ?_ ?_ ?_ ?_ ?_
      all_goals simp [t11, t12, t13, t21, t22, t23, t24, t25, t26, t28, t29, t245]
end
end Go.Ab.Grid
