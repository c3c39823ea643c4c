/- Tighten's sink, joined. -/
import Derived.Test.YtmppgcknmmmioaaGreatDoorZ14
import Derived.Test.YtmppgcknmmmioaaGreatDoorZ13
set_option linter.unusedSimpArgs false
set_option linter.unusedVariables false
set_option linter.unusedSectionVars false
set_option maxRecDepth 100000
namespace Go.Ab.Grid
open Go Go.Ab
section
variable {g : Nat} {rd : Option Nat} {T : List Value} {D : List Nat} {A : Hp} {Q : Ex → St → Prop} {V : Value → Hp → Prop}
theorem range329 {b : TB} {P : TPar} {A0 C0 : Hp} {K0 : Nat} {F : List (Nat × ABlk)} {c : Nat} {v w h s : Int} {sl : Value} {T1 : List Value} {B10 gb cb XS : Nat} (hb : b.Ok) (hP : TParOk P) (hm : P.m < 1000) (hK : K0 + 1 < 1000000000000) (hg : g ≤ b.N0) (hS : A0.get XS = some (.cells [.int .i64 P.st] false)) (hSN : XS < b.N0)
    (hw : 1 ≤ w ∧ w ≤ 24) (hh' : 1 ≤ h ∧ h ≤ 24) (hcw : (c : Int) < w * h) (hnb : P.nb c = (nbrs w h c).map Int.toNat)
    (hR : GoT b P A0 K0 F (some ⟨c, v, []⟩) C0) (hder : P.Der c v) (hv : v ≤ 1200000) (h10 : (B10, ABlk.cells [.int .i64 c, .int .i64 v] false) ∈ F) (hgb : (gb, ABlk.cells [.int .i64 w, .int .i64 h, .int .i64 s, sl] false) ∈ F) (hcb : (cb, ABlk.cells [.int .i64 c] false) ∈ F)
    (t3 : tget T1 3 = .pointer (some ⟨XS, 0, none⟩)) (t6 : tget T1 6 = .pointer (some ⟨b.X8, 0, none⟩)) (t7 : tget T1 7 = .pointer (some ⟨b.X7, 0, none⟩)) (t10 : tget T1 10 = .pointer (some ⟨B10, 0, none⟩)) (t50 : tget T1 50 = .func (.func 114) ⟨[]⟩ ⟨[.pointer (some ⟨cb, 0, none⟩), .pointer (some ⟨gb, 0, none⟩)]⟩)
    (hQ : ∀ A', GoT b P A0 K0 ((C0.n, .marks) :: F) none A' → Q .normal ⟨T1, C0.n :: D, A'⟩) :
    W AP KL g none (.rangeF (.t 50) [51] asg329 body329r) ⟨T1, D, C0⟩ Q := by
  refine W_range (h := 114) (first := []) (captured := [.pointer (some ⟨cb, 0, none⟩), .pointer (some ⟨gb, 0, none⟩)]) t50 ?_
  rw [WF_body (show KL 114 = none from rfl) (show AP 114 = some F114 from rfl)]
  have n7 := hb.n7
  have hnn := hR.nn
  obtain ⟨C, hC⟩ : ∃ C, C = (C0.push .marks).push (recL T1 [51] asg329 body329r) := ⟨_, rfl⟩
  rw [← hC]
  have hCn : C.n = C0.n + 2 := by rw [hC]; rfl
  have eC : Ext' C0 C := by rw [hC]; exact (Ext'.push C0 _).trans (Ext'.push _ _)
  have hCm : C.get C0.n = some .marks := by rw [hC, get_push_old (by simp), get_push_new]
  have hCL : C.get (C0.n + 1) = some (recL T1 [51] asg329 body329r) := by rw [hC, get_push_eq (by simp)]
  have hRC := hR.ext hb eC
  have hcb' := (hRC.F _ hcb).at_
  have hgb' := (hRC.F _ hgb).at_
  obtain ⟨⟨p1, p2⟩, p3, p4⟩ := cell_parts hw.1 (show (0 : Int) ≤ (c : Int) by omega) hcw
  have z4 : zeros 4 [Value.int .i64 0, .int .i64 0] = [.int .i64 0, .int .i64 0, .int .i64 0, .int .i64 0, .int .i64 0, .int .i64 0, .int .i64 0, .int .i64 0] := rfl
  have e1 : wr .i64 ((c : Int).tdiv w) = (c : Int).tdiv w := wrId (by omega) (by omega)
  have c24 : w * h ≤ 24 * 24 := Int.mul_le_mul hw.2 hh'.2 (by omega) (by omega)
  have e2 : wr .i64 ((c : Int).tmod w) = (c : Int).tmod w := wrId (by omega) (by omega)
  have e1' : wr .i64 ((c : Int) / w) = (c : Int) / w := by rwa [Int.tdiv_eq_ediv_of_nonneg (by omega)] at e1
  have hcbn := Hp.lt_of_get hcb'
  have hgbn := Hp.lt_of_get hgb'
  simp (disch := as_aux_lemma => first | omega | simp only [hDs] <;> omega | simp [isCell]) [hRs, takeMarks, resA, resAll, resOne, Value.cells, F114, hcb', hgb', binA_rem (show w ≠ 0 by omega), binA_quo (show w ≠ 0 by omega), e1, e2, slitA, fillA, setRange, z4]
  obtain ⟨B, hB⟩ : ∃ B, B = C.push (.cells (ints dirI) false) := ⟨_, rfl⟩
  have hB' := hB.symm
  simp only [dirI, ints, List.map_cons, List.map_nil] at hB'
  rw [hB']
  have eB : Ext' C B := by rw [hB]; exact Ext'.push C _
  have hBr : B.get C.n = some (.cells (ints dirI) false) := by rw [hB, get_push_new]
  obtain ⟨F', hF'⟩ : ∃ F', F' = (C.n, ABlk.cells (ints dirI) false) :: (C0.n, .marks) :: F := ⟨_, rfl⟩
  have hF : GoT b P A0 K0 F' (some ⟨c, v, []⟩) B := by
    refine ⟨(hRC.ext hb eB).e, fun x hx => ?_⟩
    rw [hF'] at hx
    rcases List.mem_cons.1 hx with rfl | hx
    · exact hRC.new eB (Nat.le_refl _) hBr
    · rcases List.mem_cons.1 hx with rfl | hx
      · exact hR.new (eC.trans eB) (Nat.le_refl _) (eB.get hCm)
      · exact (hRC.ext hb eB).F x hx
  have hFr : ∀ x, x ∈ F' → x.1 ≠ C0.n + 1 := fun x hx => by
    rw [hF'] at hx
    rcases List.mem_cons.1 hx with rfl | hx
    · simp only; omega
    · rcases List.mem_cons.1 hx with rfl | hx
      · simp only; omega
      · have := Hp.lt_of_get (hR.F x hx).at_; omega
  have hLr : SafT b B (C0.n + 1) (recL T1 [51] asg329 body329r) := hR.new (eC.trans eB) (by omega) (eB.get hCL)
  have m10 : (B10, ABlk.cells [.int .i64 c, .int .i64 v] false) ∈ F' := by rw [hF']; exact List.mem_cons_of_mem _ (List.mem_cons_of_mem _ h10)
  have mgb : (gb, ABlk.cells [.int .i64 w, .int .i64 h, .int .i64 s, sl] false) ∈ F' := by rw [hF']; exact List.mem_cons_of_mem _ (List.mem_cons_of_mem _ hgb)
  have mr : (C.n, ABlk.cells (ints dirI) false) ∈ F' := by rw [hF']; exact List.mem_cons_self ..
  refine loop114 (P := fun dn A => GoT b P A0 K0 F' (some ⟨c, v, dn.map Int.toNat⟩) A ∧ SafT b A (C0.n + 1) (recL T1 [51] asg329 body329r)) (L := C0.n + 1) (G := gb) (R := C.n) (w := w) (h := h) (c := c) (s := s) (sl := sl) hw hh' ⟨p1, p2⟩ ⟨p3, p4⟩
    (fun dn A hPA => ⟨(hPA.1.F _ mgb).at_, (hPA.1.F _ mr).at_, by have := hPA.1.nn; omega⟩) (fun dn A bl hPA => ⟨hPA.1.ext hb (Ext'.push A bl), hPA.2.up hb (TUp.of (Ext'.push A bl) (by have := hPA.1.nn; have := hb.n8; omega))⟩) (fun dn d A V _ hPA hd hV => ?_) (fun T' A' hPA => ?_) 4 0 (by omega) ⟨hF, hLr⟩ ?_ ?_ ?_ ?_ ?_ ?_ ?_
  · obtain ⟨d0, d1⟩ := nbrs_range hw.1 hd
    obtain ⟨dN, rfl⟩ : ∃ dN : Nat, d = (dN : Int) := ⟨d.toNat, by omega⟩
    refine y329 (c := c) (v := v) hb hP hm hK hg hS hSN hPA.1 (d := dN) ?_ hder hv m10 hPA.2 hFr t3 t6 t7 t10 fun A' k1 k2 => hV A' ⟨?_, k2⟩
    · rw [hnb]
      exact List.mem_map.2 ⟨_, hd, by simp⟩
    · rw [List.map_append]; exact k1
  · obtain ⟨o, L, k1, k2, k3⟩ := hPA.1.e
    have hL := hPA.2.at_
    simp (disch := as_aux_lemma => first | omega | simp only [hDs] <;> omega | simp [isCell]) [hRs, takeMarks, resA, resAll, resOne, Value.cells, EndQ, hL, recL]
    refine hQ _ ⟨⟨o, L, k1.set hb hPA.2, ?_, k3⟩, fun x hx => ?_⟩
    · rw [← hnb] at k2
      exact k2.shut
    · have hx' : x ∈ F' := by rw [hF']; exact List.mem_cons_of_mem _ hx
      exact (hPA.1.F x hx').set_ne hb hPA.2 (hFr x hx')
  all_goals simp [e1']
theorem loop329b {b : TB} {P : TPar} {A0 : Hp} {w h s : Int} {sl : Value} {X2 XS : Nat} (hb : b.Ok) (hP : TParOk P) (hm : P.m < 1000) (hg : g ≤ b.N0) (hS : A0.get XS = some (.cells [.int .i64 P.st] false)) (hSN : XS < b.N0)
    (hw : 1 ≤ w ∧ w ≤ 24) (hh' : 1 ≤ h ∧ h ≤ 24) (hcw : (P.m : Int) = w * h) (hnb : ∀ c, c < P.m → P.nb c = (nbrs w h c).map Int.toNat) (hX2 : A0.get X2 = some (.cells [.int .i64 w, .int .i64 h, .int .i64 s, sl] false)) (h2N : X2 < b.N0)
    (hQ : ∀ T' A' D' K0, GoT b P A0 K0 (fD D' []) none A' → D'.Nodup → (∃ o, TL b P.m A0 A' o [] ∧ TMid P o [] none) → tget T' 1 = tget T 1 → tget T' 7 = .pointer (some ⟨b.X7, 0, none⟩) → Q (.exit 2) ⟨T', D', A'⟩) :
    ∀ (K0 : Nat) {T1 : List Value} {A : Hp} {D : List Nat}, K0 + 1 < 1000000000000 → GoT b P A0 K0 (fD D []) none A → D.Nodup → tget T1 1 = tget T 1 → tget T1 2 = .pointer (some ⟨X2, 0, none⟩) → tget T1 3 = .pointer (some ⟨XS, 0, none⟩) → tget T1 6 = .pointer (some ⟨b.X8, 0, none⟩) → tget T1 7 = .pointer (some ⟨b.X7, 0, none⟩) →
      W AP KL g none (.loop body329b) ⟨T1, D, A⟩ Q := by
  intro K0
  induction K0 with
  | zero =>
    intro T1 A D hK hG hD t1 t2 t3 t6 t7
    obtain ⟨o, L, h1, h2, h3⟩ := hG.e
    have hl : L.length = 0 := by omega
    have hL : L = [] := List.eq_nil_of_length_eq_zero hl
    subst hL
    obtain ⟨sv, s1, s2⟩ := h1.hp.e
    have s3 := s2.len
    unfold bef330 at s1
    rw [W_loop]
    simp (disch := as_aux_lemma => first | omega | simp only [hDs] <;> omega | simp [isCell]) [hRs, takeMarks, resA, resAll, resOne, Value.cells, body329b, t6, s1, s3]
    exact hQ _ _ _ _ hG hD ⟨o, h1, h2⟩ (by simp [t1]) (by simp [t7])
  | succ K0 ih =>
    intro T1 A D hK hG hD t1 t2 t3 t6 t7
    obtain ⟨o, L, h1, h2, h3⟩ := hG.e
    obtain ⟨sv, s1, s2⟩ := h1.hp.e
    have s3 := s2.len
    unfold bef330 at s1
    by_cases hl : L.length = 0
    · have hL : L = [] := List.eq_nil_of_length_eq_zero hl
      subst hL
      rw [W_loop]
      simp (disch := as_aux_lemma => first | omega | simp only [hDs] <;> omega | simp [isCell]) [hRs, takeMarks, resA, resAll, resOne, Value.cells, body329b, t6, s1, s3]
      exact hQ _ _ _ _ hG hD ⟨o, h1, h2⟩ (by simp [t1]) (by simp [t7])
    have h8 := hb.n8
    rw [W_loop]
    simp (disch := as_aux_lemma => first | omega | simp only [hDs] <;> omega | simp [isCell]) [hRs, takeMarks, resA, resAll, resOne, Value.cells, body329b, t6, s1, s3, show (0 : Int) < L.length by omega, show 0 < L.length by omega]
    refine w278T h1.hp h1.nn (by omega) (by omega) (by omega) fun A1 L' x y m1 m2 m3 m4 m5 m6 => ?_
    obtain ⟨c, hc, hder, hy⟩ := h2.heap _ m1
    simp only at hc hder hy
    subst hc
    have hcm := hder.lt hP
    have u1 : TUp b A A1 := TUp.heap m6
    have hnn := h1.nn
    have k7 := hb.n7
    have kO := hb.nO
    have sl1 : TL b P.m A0 A1 o L' := h1.heap hb m5 m6
    have g1 : GoT b P A0 K0 (fD D []) (some ⟨c, y, []⟩) A1 := ⟨⟨o, L', sl1, h2.take m3 m4, by omega⟩, fun z hz => (hG.F z hz).up hb u1⟩
    obtain ⟨B, hB⟩ : ∃ B, B = A1.push (.cells [.int .i64 c, .int .i64 y] false) := ⟨_, rfl⟩
    have eB : Ext' A1 B := by rw [hB]; exact Ext'.push A1 _
    have hBn : B.n = A1.n + 1 := by rw [hB]; rfl
    have m6n := m6.n
    have gB := g1.ext hb eB
    have x2 : B.get X2 = some (.cells [.int .i64 w, .int .i64 h, .int .i64 s, sl] false) := by rw [eB.2 _ (by have := m6.n; omega), sl1.low _ h2N]; exact hX2
    have b12 : B.get A1.n = some (.cells [.int .i64 c, .int .i64 y] false) := by rw [hB, get_push_new]
    simp (disch := as_aux_lemma => first | omega | simp only [hDs] <;> omega | simp [isCell]) [hRs, takeMarks, resA, resAll, resOne, Value.cells, t2, storeB_cells, setRange, set_push_eq, ← hB, x2, b12, WF_body (K := KL) rfl (show AP 112 = some F112 from rfl), F112]
    obtain ⟨C, hC⟩ : ∃ C, C = (B.push (.cells [.int .i64 w, .int .i64 h, .int .i64 s, sl] false)).push (.cells [.int .i64 c] false) := ⟨_, rfl⟩
    have eC : Ext' B C := by rw [hC]; exact (Ext'.push B _).trans (Ext'.push _ _)
    have hCn : C.n = B.n + 2 := by rw [hC]; rfl
    have cgb : C.get B.n = some (.cells [.int .i64 w, .int .i64 h, .int .i64 s, sl] false) := by rw [hC, get_push_old (by simp), get_push_new]
    have ccb : C.get (B.n + 1) = some (.cells [.int .i64 c] false) := by rw [hC, get_push_eq (by simp)]
    rw [← hC]
    obtain ⟨F, hF⟩ : ∃ F, F = fD D [] := ⟨_, rfl⟩
    rw [← hF] at g1 gB
    have gC : GoT b P A0 K0 ((A1.n, ABlk.cells [.int .i64 c, .int .i64 y] false) :: (B.n, ABlk.cells [.int .i64 w, .int .i64 h, .int .i64 s, sl] false) :: (B.n + 1, ABlk.cells [.int .i64 c] false) :: F) (some ⟨c, y, []⟩) C := by
      refine ⟨(gB.ext hb eC).e, fun x hx => ?_⟩
      rcases List.mem_cons.1 hx with rfl | hx
      · exact g1.new (eB.trans eC) (Nat.le_refl _) (eC.get b12)
      · rcases List.mem_cons.1 hx with rfl | hx
        · exact gB.new eC (Nat.le_refl _) cgb
        · rcases List.mem_cons.1 hx with rfl | hx
          · exact gB.new eC (Nat.le_succ _) ccb
          · exact (gB.ext hb eC).F x hx
    have hcI : (c : Int) < w * h := by rw [← hcw]; omega
    refine range329 (b := b) (c := c) (v := y) (w := w) (h := h) (s := s) (sl := sl) (B10 := A1.n) (gb := B.n) (cb := B.n + 1) (T1 := _) (XS := XS) hb hP hm (by omega) hg hS hSN hw hh' hcI (hnb c hcm) gC hder hy (by simp) (by simp) (by simp) ?_ ?_ ?_ ?_ ?_ fun A2 gA2 => ?_
    · simp [t3]
    · simp [t6]
    · simp [t7]
    · simp
    · simp
    · simp (disch := as_aux_lemma => first | omega | simp only [hDs] <;> omega | simp [isCell]) [hRs, takeMarks, resA, resAll, resOne, Value.cells]
      refine ih (by omega) (D := C.n :: D) (gA2.mono fun x hx => ?_) ?_ ?_ ?_ ?_ ?_ ?_
      · unfold fD at hx
        rw [List.map_cons, List.cons_append] at hx
        rcases List.mem_cons.1 hx with rfl | hx
        · exact List.mem_cons_self ..
        · have hx' : x ∈ F := by rw [hF]; exact hx
          simp [hx']
      · refine List.nodup_cons.2 ⟨fun hmem => ?_, hD⟩
        have : (C.n, ABlk.marks) ∈ fD D [] := by unfold fD; simp [hmem]
        have := Hp.lt_of_get (hG.F _ this).at_
        have := m6.n
        simp only at *
        omega
      · simp [t1]
      · simp [t2]
      · simp [t3]
      · simp [t6]
      · simp [t7]
end
end Go.Ab.Grid
set_option maxRecDepth 100000
namespace Go.Ab.Grid
open Go Go.Ab
structure G where
  w : Int
  h : Int
  s : Int
  m : Nat
  zs : List Int
def G0 : G := ⟨0, 0, 0, 0, []⟩
def G.E (x : G) : Int := gridE x.w x.h x.s x.m x.zs
def GAt (A : Hp) (x : G) (v : Value) : Prop := ∃ sl, v = gridV x.w x.h x.s sl ∧ RdS A 2 x.m (ints x.zs) sl
theorem GAt.mono {A A' : Hp} {x : G} {v : Value} (h : GAt A x v) (e : Ext' A A') : GAt A' x v := by
  obtain ⟨sl, h1, h2⟩ := h; exact ⟨sl, h1, e.rdS h2⟩
theorem GAt.zero {A : Hp} : GAt A G0 (gridV 0 0 0 (.slice none 0 0)) := ⟨_, rfl, by simp [G0, ints], .inl ⟨rfl, rfl⟩⟩
theorem eqv2 {a b a' b' : Int} : eqvA true [false, false] (.agg ⟨[.int .i64 a, .int .i64 b]⟩) (.agg ⟨[.int .i64 a', .int .i64 b']⟩) = some (.bool (!(decide (a = a') && decide (b = b')))) := by
  simp [eqvA, eqCells, cellEq, kEq]
  rfl
theorem copy_fresh {g k bytes m : Nat} {A : Hp} {cs : List Value} {src : Value} (h : RdS A k m cs src) (hcell : cs.all isCell = true) (hg : g ≤ A.n) (hk : 0 < k) (hr : m * bytes ≤ room ∧ m ≤ room) :
    ∃ Y c A', appendA g (A.push (.cells [] false)) k bytes (.slice (some ⟨A.n, 0, some k⟩) 0 0) src = some (.slice (some ⟨Y, 0, some k⟩) m c, A') ∧ Ext' A A' ∧ A'.get Y = some (.cells cs false) ∧ A.n ≤ Y := by
  have e1 := Ext'.push A (.cells [] false)
  have hc := (h.push (x := .cells [] false)).cellsAt
  obtain ⟨p, c, rfl⟩ : ∃ p c, src = .slice p m c := by rcases h with ⟨_, ⟨rfl, rfl⟩ | ⟨_, _, _, rfl, _⟩⟩ <;> exact ⟨_, _, rfl⟩
  unfold appendA
  simp only [hc]
  rw [if_pos ⟨hcell, hk⟩]
  by_cases hm : m = 0
  · subst hm
    rw [if_pos rfl]
    refine ⟨_, _, _, rfl, e1, ?_, Nat.le_refl _⟩
    have : cs = [] := List.eq_nil_of_length_eq_zero (by have := h.1; simpa using this)
    rw [get_push_new, this]
  · rw [if_neg hm]
    simp only [get_push_new]
    rw [if_pos ⟨hg, by simpa using hr.1, by simpa using hr.2, trivial⟩, if_pos (by simp)]
    refine ⟨A.n + 1, m, ((A.push (.cells [] false)).set A.n none).push (.cells cs false), by simp, ⟨by simp; omega, fun z hz => ?_⟩, by rw [get_push_eq (by simp)], by omega⟩
    rw [get_push_old (by simp; omega), get_set_ne (by simp) (by omega), get_push_old hz]
section
variable {g : Nat} {rd : Option Nat} {T : List Value} {D : List Nat} {A : Hp} {Q : Ex → St → Prop} {V : Value → Hp → Prop}
theorem loop294 {n : Nat} {a b : List Int} {x y : Value} (ha : RdS A 2 n (ints a) x) (hb : RdS A 2 n (ints b) y) (hn : n < 1000000)
    (hQ : ∀ T', a = b → Q (.exit 0) ⟨T', D, A⟩) (hR : ∀ T', a ≠ b → tget T' 4 = .bool false → Q .ret ⟨T', D, A⟩) :
    ∀ (k i : Nat) {T : List Value}, i + k = n → (∀ j, j < i * 2 → gi a j = gi b j) → tget T 0 = x → tget T 1 = y → tget T 5 = .int .i64 i → W AP KL g rd (.loop body294) ⟨T, D, A⟩ Q := by
  intro k
  have la : a.length = n * 2 := by have := ha.1; simpa using this
  have lb : b.length = n * 2 := by have := hb.1; simpa using this
  have hl := ha.len
  induction k with
  | zero =>
    intro i T hi hp t0 t1 t5
    rw [W_loop]
    simp (disch := as_aux_lemma => first | omega | simp only [hDs] <;> omega | simp [isCell]) [hRs, takeMarks, resA, resAll, resOne, Value.cells, body294, t0, t1, t5, hl, show ¬ ((i : Int) < n) by omega]
    exact hQ _ (list_gi (by omega) fun j hj => hp j (by omega))
  | succ k ih =>
    intro i T hi hp t0 t1 t5
    have e5 : wr .i64 ((i : Int) + 1) = ((i + 1 : Nat) : Int) := by rw [wrId (by omega) (by omega)]; simp
    obtain ⟨xb, xc, xr, rfl, hxb⟩ := ha.at (show i < n by omega)
    obtain ⟨yb, yc, yr, rfl, hyb⟩ := hb.at (show i < n by omega)
    rw [W_loop]
    by_cases he : gi a (i * 2) = gi b (i * 2) ∧ gi a (i * 2 + 1) = gi b (i * 2 + 1)
    · simp (disch := as_aux_lemma => first | omega | simp only [hDs] <;> omega | simp [isCell]) [hRs, takeMarks, resA, resAll, resOne, Value.cells, body294, t0, t1, t5, hl, show ((i : Int) < n) by omega, show i < n by omega, idxSA_ok, hxb, hyb, ints_two, la, lb, he.1, he.2, e5, eqv2]
      refine ih (i + 1) (by omega) (fun j hj => ?_) ?_ ?_ ?_
      · by_cases h : j = i * 2
        · rw [h]; exact he.1
        · by_cases h' : j = i * 2 + 1
          · rw [h']; exact he.2
          · exact hp j (by omega)
      all_goals simp [t0, t1]
    · have hne : a ≠ b := fun h => he (by rw [h]; exact ⟨rfl, rfl⟩)
      have hd : (decide (gi a (i * 2) = gi b (i * 2)) && decide (gi a (i * 2 + 1) = gi b (i * 2 + 1))) = false := by simpa using he
      have hd' : (!decide (gi a (i * 2) = gi b (i * 2)) || !decide (gi a (i * 2 + 1) = gi b (i * 2 + 1))) = true := by rw [← Bool.not_and, hd]; rfl
      simp (disch := as_aux_lemma => first | omega | simp only [hDs] <;> omega | simp [isCell]) [hRs, takeMarks, resA, resAll, resOne, Value.cells, body294, t0, t1, t5, hl, show ((i : Int) < n) by omega, show i < n by omega, idxSA_ok, hxb, hyb, ints_two, la, lb, hd, hd', e5, eqv2]
      exact hR _ hne (by simp)
theorem w294 {na nb : Nat} {a b : List Int} {x y : Value} (ha : RdS A 2 na (ints a) x) (hb : RdS A 2 nb (ints b) y) (hn : na < 1000000) (hV : V (.bool (decide (a = b))) A) : WF AP KL g 294 [x, y] A V := by
  rw [WF_body (show KL 294 = none from rfl) (show AP 294 = some F294 from rfl)]
  have la : a.length = na * 2 := by have := ha.1; simpa using this
  have lb : b.length = nb * 2 := by have := hb.1; simpa using this
  have h1 := ha.len
  have h2 := hb.len
  by_cases he : na = nb
  · subst he
    simp (disch := as_aux_lemma => first | omega | simp only [hDs] <;> omega | simp [isCell]) [hRs, takeMarks, resA, resAll, resOne, Value.cells, F294, h1, h2]
    refine loop294 ha hb hn (fun T' he' => ?_) (fun T' he' t4 => ?_) na 0 (by omega) (fun j hj => by omega) ?_ ?_ ?_
    · simp (disch := as_aux_lemma => first | omega | simp only [hDs] <;> omega | simp [isCell]) [hRs, takeMarks, resA, resAll, resOne, Value.cells, he']
      simpa [he'] using hV
    · simp (disch := as_aux_lemma => first | omega | simp only [hDs] <;> omega | simp [isCell]) [hRs, takeMarks, resA, resAll, resOne, Value.cells, t4]
      simpa [he'] using hV
    all_goals simp
  · simp (disch := as_aux_lemma => first | omega | simp only [hDs] <;> omega | simp [isCell]) [hRs, takeMarks, resA, resAll, resOne, Value.cells, F294, h1, h2, show ¬ ((na : Int) = nb) by omega]
    have : a ≠ b := fun h => he (by rw [h] at la; omega)
    simpa [this] using hV
theorem w301 {x y : G} {vx vy : Value} (hx : GAt A x vx) (hy : GAt A y vy) (hn : x.m < 1000000) (he : x = y) (hV : ∀ A', Ext' A A' → V (.bool true) A') : WF AP KL g 301 [vx, vy] A V := by
  subst he
  obtain ⟨sx, rfl, rx⟩ := hx
  obtain ⟨sy, rfl, ry⟩ := hy
  rw [WF_body (show KL 301 = none from rfl) (show AP 301 = some F301 from rfl)]
  have e1 : Ext' A ((A.push (.cells [.int .i64 x.w, .int .i64 x.h, .int .i64 x.s, sx] false)).push (.cells [.int .i64 x.w, .int .i64 x.h, .int .i64 x.s, sy] false)) := (Ext'.push _ _).trans (Ext'.push _ _)
  simp (disch := as_aux_lemma => first | omega | simp only [hDs] <;> omega | simp [isCell]) [hRs, takeMarks, resA, resAll, resOne, Value.cells, F301, gridV]
  refine w294 (e1.rdS rx) (e1.rdS ry) hn ?_
  simp (disch := as_aux_lemma => first | omega | simp only [hDs] <;> omega | simp [isCell]) [hRs, takeMarks, resA, resAll, resOne, Value.cells]
  exact hV _ e1
theorem w161 {m : Nat} {zs : List Int} {sl : Value} (hsl : RdS A 2 m (ints zs) sl) (h0 : 0 < m) (hm : m < 1000000) (hg : g ≤ A.n)
    (hV : ∀ A' Y c, Ext' A A' → A.n ≤ Y → A'.get Y = some (.cells (ints zs) false) → V (.slice (some ⟨Y, 0, some 2⟩) m c) A') : WF AP KL g 161 [sl] A V := by
  rw [WF_body (show KL 161 = none from rfl) (show AP 161 = some F161 from rfl)]
  obtain ⟨xb, xc, xr, hs, hxb⟩ := hsl.at h0
  obtain ⟨Y, c, A', h1, e1, hY, hAY⟩ := copy_fresh (g := g) (bytes := 16) hsl (ints_isCell _) hg (by decide) (by unfold room; omega)
  subst hs
  simp (disch := as_aux_lemma => first | omega | simp only [hDs] <;> omega | simp [isCell]) [hRs, takeMarks, resA, resAll, resOne, Value.cells, F161, eqNilA, isNil, slitA, zeros, fillA, h1]
  exact hV _ _ _ e1 hAY hY
def OwnV (V : Value → Hp → Prop) (A : Hp) (w h s : Int) (m : Nat) (zs : List Int) : Prop :=
  ∀ A' Y c, Ext' A A' → A.n ≤ Y → A'.get Y = some (.cells (ints zs) false) → V (gridV w h s (.slice (some ⟨Y, 0, some 2⟩) m c)) A'
theorem w326 {w h s : Int} {m : Nat} {zs : List Int} {sl : Value} (hsl : RdS A 2 m (ints zs) sl) (h0 : 0 < m) (hm : m < 1000000) (hg : g ≤ A.n) (hV : OwnV V A w h s m zs) : WF AP KL g 326 [gridV w h s sl] A V := by
  rw [WF_body (show KL 326 = none from rfl) (show AP 326 = some F326 from rfl)]
  obtain ⟨B, hB⟩ : ∃ B, B = (A.push (.cells [.int .i64 w, .int .i64 h, .int .i64 s, sl] false)).push (.cells [.int .i64 0, .int .i64 0, .int .i64 0, .slice none 0 0] false) := ⟨_, rfl⟩
  have eB : Ext' A B := by rw [hB]; exact (Ext'.push _ _).trans (Ext'.push _ _)
  have nB : B.n = A.n + 2 := by rw [hB]; rfl
  have b0 : B.get A.n = some (.cells [.int .i64 w, .int .i64 h, .int .i64 s, sl] false) := by rw [hB, get_push_old (by simp), get_push_eq (by omega)]
  have b1 : B.get (A.n + 1) = some (.cells [.int .i64 0, .int .i64 0, .int .i64 0, .slice none 0 0] false) := by rw [hB, get_push_eq (by simp)]
  simp (disch := as_aux_lemma => first | omega | simp only [hDs] <;> omega | simp [isCell]) [hRs, takeMarks, resA, resAll, resOne, Value.cells, F326, gridV, ← hB, b0]
  refine w161 (eB.rdS hsl) h0 hm (by omega) fun A' Y c e' hAY hY => ?_
  have c0 := e'.get b0
  have c1 := e'.get b1
  have n' := e'.1
  obtain ⟨C, hC⟩ : ∃ C, C = A'.set A.n (some (.cells [.int .i64 w, .int .i64 h, .int .i64 s, .slice (some ⟨Y, 0, some 2⟩) m c] false)) := ⟨_, rfl⟩
  have d0 : C.get A.n = some (.cells [.int .i64 w, .int .i64 h, .int .i64 s, .slice (some ⟨Y, 0, some 2⟩) m c] false) := by rw [hC]; exact get_set_same c0
  have oC : ∀ z, z < A'.n → z ≠ A.n → C.get z = A'.get z := fun z hz hn => by rw [hC]; exact get_set_ne (by omega) hn
  have d1 : C.get (A.n + 1) = some (.cells [.int .i64 0, .int .i64 0, .int .i64 0, .slice none 0 0] false) := by rw [oC _ (by omega) (by omega)]; exact c1
  have nC : C.n = A'.n := by rw [hC]; rfl
  simp (disch := as_aux_lemma => first | omega | simp only [hDs] <;> omega | simp [isCell]) [hRs, takeMarks, resA, resAll, resOne, Value.cells, c0, storeB_cells, setRange, ← hC, d0, d1, setRange_all, get_set_same d1]
  have oD : ∀ z, z < A'.n → z ≠ A.n → z ≠ A.n + 1 → (C.set (A.n + 1) (some (.cells [.int .i64 w, .int .i64 h, .int .i64 s, .slice (some ⟨Y, 0, some 2⟩) m c] false))).get z = A'.get z := fun z hz h1 h2 => by rw [get_set_ne (by omega) h2, oC z hz h1]
  have hYn := Hp.lt_of_get hY
  exact hV _ Y c ⟨by simp; omega, fun z hz => by rw [oD z (by omega) (by omega) (by omega), e'.2 z (by omega), eB.2 z hz]⟩ (by omega) (by rw [oD Y hYn (by omega) (by omega)]; exact hY)
theorem w328 {w h s : Int} {m : Nat} {zs : List Int} {sl : Value} (hsl : RdS A 2 m (ints zs) sl) (hm : m < 1000000) (hg : g ≤ A.n) (hV : OwnV V A w h s m zs) : WF AP KL g 328 [gridV w h s sl] A V := by
  rw [WF_body (show KL 328 = none from rfl) (show AP 328 = some F328 from rfl)]
  obtain ⟨B, hB⟩ : ∃ B, B = (A.push (.cells [.int .i64 w, .int .i64 h, .int .i64 s, sl] false)).push (.cells [.int .i64 0, .int .i64 0, .int .i64 0, .slice none 0 0] false) := ⟨_, rfl⟩
  have eB : Ext' A B := by rw [hB]; exact (Ext'.push _ _).trans (Ext'.push _ _)
  have nB : B.n = A.n + 2 := by rw [hB]; rfl
  have b0 : B.get A.n = some (.cells [.int .i64 w, .int .i64 h, .int .i64 s, sl] false) := by rw [hB, get_push_old (by simp), get_push_eq (by omega)]
  have b1 : B.get (A.n + 1) = some (.cells [.int .i64 0, .int .i64 0, .int .i64 0, .slice none 0 0] false) := by rw [hB, get_push_eq (by simp)]
  obtain ⟨Y, c, A', h1, e', hY, hAY⟩ := copy_fresh (g := g) (bytes := 16) (eB.rdS hsl) (ints_isCell _) (by omega) (by decide) (by unfold room; omega)
  have c0 := e'.get b0
  have c1 := e'.get b1
  have n' := e'.1
  obtain ⟨C, hC⟩ : ∃ C, C = A'.set A.n (some (.cells [.int .i64 w, .int .i64 h, .int .i64 s, .slice (some ⟨Y, 0, some 2⟩) m c] false)) := ⟨_, rfl⟩
  have d0 : C.get A.n = some (.cells [.int .i64 w, .int .i64 h, .int .i64 s, .slice (some ⟨Y, 0, some 2⟩) m c] false) := by rw [hC]; exact get_set_same c0
  have oC : ∀ z, z < A'.n → z ≠ A.n → C.get z = A'.get z := fun z hz hn => by rw [hC]; exact get_set_ne (by omega) hn
  have d1 : C.get (A.n + 1) = some (.cells [.int .i64 0, .int .i64 0, .int .i64 0, .slice none 0 0] false) := by rw [oC _ (by omega) (by omega)]; exact c1
  have nC : C.n = A'.n := by rw [hC]; rfl
  simp (disch := as_aux_lemma => first | omega | simp only [hDs] <;> omega | simp [isCell]) [hRs, takeMarks, resA, resAll, resOne, Value.cells, F328, gridV, ← hB, b0, slitA, zeros, fillA, h1, c0, storeB_cells, setRange, ← hC, d0, d1, setRange_all, get_set_same d1]
  have oD : ∀ z, z < A'.n → z ≠ A.n → z ≠ A.n + 1 → (C.set (A.n + 1) (some (.cells [.int .i64 w, .int .i64 h, .int .i64 s, .slice (some ⟨Y, 0, some 2⟩) m c] false))).get z = A'.get z := fun z hz h1 h2 => by rw [get_set_ne (by omega) h2, oC z hz h1]
  have hYn := Hp.lt_of_get hY
  exact hV _ Y c ⟨by simp; omega, fun z hz => by rw [oD z (by omega) (by omega) (by omega), e'.2 z (by omega), eB.2 z hz]⟩ (by omega) (by rw [oD Y hYn (by omega) (by omega)]; exact hY)
end
end Go.Ab.Grid
set_option maxRecDepth 100000
namespace Go.Ab.Grid
open Go Go.Ab
def GV3 (A : Hp) (r : G × Int × Int) (v : Value) : Prop := ∃ vg, v = .tuple ⟨[vg, .int .i64 r.2.1, .int .i64 r.2.2]⟩ ∧ GAt A r.1 vg
theorem setRange_two {cur : List Int} {i : Nat} {a b : Int} (h : i * 2 + 2 ≤ cur.length) : setRange (ints cur) (i * 2) [.int .i64 a, .int .i64 b] = ints ((cur.set (i * 2) a).set (i * 2 + 1) b) := by
  have hl : (ints cur).length = cur.length := by simp
  have e1 : ints ((cur.set (i * 2) a).set (i * 2 + 1) b) = ((ints cur).set (i * 2) (.int .i64 a)).set (i * 2 + 1) (.int .i64 b) := by simp [ints, List.map_set]
  rw [e1]
  generalize ints cur = l at hl ⊢
  apply List.ext_getElem?
  intro j
  simp only [setRange, List.length_cons, List.length_nil]
  rw [List.getElem?_set, List.getElem?_set, List.append_assoc]
  by_cases h1 : j < i * 2
  · rw [List.getElem?_append_left (by simp; omega), List.getElem?_take_of_lt h1, if_neg (by omega), if_neg (by omega)]
  · rw [List.getElem?_append_right (by simp; omega)]
    have ht : (l.take (i * 2)).length = i * 2 := by simp; omega
    rw [ht]
    by_cases h2 : j = i * 2
    · subst h2
      simp [show i * 2 < l.length by omega]
    · by_cases h3 : j = i * 2 + 1
      · subst h3
        simp [show i * 2 + 1 < l.length by omega]
      · obtain ⟨q, rfl⟩ : ∃ q, j = i * 2 + 2 + q := ⟨j - (i * 2 + 2), by omega⟩
        rw [if_neg (by omega), if_neg (by omega), show i * 2 + 2 + q - i * 2 = q + 2 by omega]
        simp [List.getElem?_drop]
theorem _root_.Go.Ab.RdS.isSlice' {A : Hp} {k n : Nat} {cs : List Value} {sv : Value} (h : RdS A k n cs sv) : ∃ p c, sv = .slice p n c := by
  rcases h with ⟨_, ⟨rfl, rfl⟩ | ⟨_, _, _, rfl, _⟩⟩ <;> exact ⟨_, _, rfl⟩
theorem set_same {A : Hp} {x : Nat} {b : ABlk} (h : A.get x = some b) : Ext' A (A.set x (some b)) := by
  have hn := Hp.lt_of_get h
  refine ⟨by simp, fun z hz => ?_⟩
  by_cases hzx : z = x
  · subst hzx; rw [get_set_same h, h]
  · exact get_set_ne hn hzx
abbrev zeroG : ABlk := .cells [.int .i64 0, .int .i64 0, .int .i64 0, .slice none 0 0] false
section
variable {g : Nat} {rd : Option Nat} {T : List Value} {D : List Nat} {A : Hp} {Q : Ex → St → Prop} {V : Value → Hp → Prop}
theorem GAt.tuple {A : Hp} {x : G} {vg : Value} {i e : Int} (h : GAt A x vg) : GV3 A (x, i, e) (.tuple ⟨[vg, .int .i64 i, .int .i64 e]⟩) := ⟨vg, rfl, h⟩
end
end Go.Ab.Grid
set_option maxRecDepth 100000
namespace Go.Ab.Grid
open Go Go.Ab
@[simp] theorem GuardW_un {AP : Nat → Option AFunc} {K : Nat → Option Spec} {g : Nat} {dst : Option Nat} {op : AOp} {l : List AOper} {T : List Value} {A : Hp} {R : List Value → Hp → Prop} {b : Bool} :
    GuardW AP K g dst op l T A R b undef = WO AP K g l (putA dst T undef) A R := rfl
section
variable {g : Nat} {rd : Option Nat} {T : List Value} {D : List Nat} {A : Hp} {Q : Ex → St → Prop} {V : Value → Hp → Prop}
end
end Go.Ab.Grid
set_option maxRecDepth 100000
namespace Go.Ab.Grid
open Go Go.Ab
def sndC (m : Nat) (ls : List Int) (i : Nat) : Int :=
  if (decide (0 ≤ gi ls (i * 3)) && decide (gi ls (i * 3) ≤ (m : Int) - 1)) = true then
    if (decide (-1200000 ≤ gi ls (i * 3 + 1)) && decide (gi ls (i * 3 + 1) ≤ 1200000)) = true then if (decide (0 ≤ gi ls (i * 3 + 2)) && decide (gi ls (i * 3 + 2) ≤ 100000)) = true then 0 else 3 else 3
  else 4
section
variable {g : Nat} {rd : Option Nat} {T : List Value} {D : List Nat} {A : Hp} {Q : Ex → St → Prop} {V : Value → Hp → Prop}
end
end Go.Ab.Grid
set_option maxRecDepth 100000
namespace Go.Ab.Grid
open Go Go.Ab
section
variable {g : Nat} {rd : Option Nat} {T : List Value} {D : List Nat} {A : Hp} {Q : Ex → St → Prop} {V : Value → Hp → Prop}
end
end Go.Ab.Grid
set_option maxRecDepth 100000
namespace Go.Ab.Grid
open Go Go.Ab
section
variable {g : Nat} {rd : Option Nat} {T : List Value} {D : List Nat} {A : Hp} {Q : Ex → St → Prop} {V : Value → Hp → Prop}
theorem w292 {x : G} {vx : Value} (hx : GAt A x vx) (hg : g ≤ A.n) (hV : ∀ A', Ext' A A' → V (.bool (decide (60 < (x.m : Int)))) A') : WF AP KL g 292 [vx] A V := by
  obtain ⟨sx, rfl, rx⟩ := hx
  have hl := rx.len
  rw [WF_body (show KL 292 = none from rfl) (show AP 292 = some F292 from rfl)]
  simp (disch := as_aux_lemma => first | omega | simp only [hDs] <;> omega | simp [isCell]) [hRs, takeMarks, resA, resAll, resOne, Value.cells, F292, gridV, hl]
  exact hV _ (Ext'.push _ _)
end
end Go.Ab.Grid
set_option maxRecDepth 100000
namespace Go.Ab.Grid
open Go Go.Ab
structure Land where
  wide : Int
  high : Int
  nl : Nat
  low : List Int
  nm : Nat
  more : List Int
def Land.lo (L : Land) (i : Nat) : Int := if 0 < L.nl then gi L.low (i % L.nl) else 0
def Land.hi (L : Land) (i : Nat) : Int := L.lo i + if 0 < L.nm then gi L.more (i % L.nm) else 0
def Land.w (L : Land) : Int := 1 + L.wide.tmod 5
def Land.h (L : Land) : Int := 1 + L.high.tmod 5
def Land.n (L : Land) : Nat := (L.w * L.h).toNat
def Land.zs (L : Land) : Nat → List Int
  | 0 => []
  | i + 1 => L.zs i ++ [L.lo i, L.hi i]
def Land.G (L : Land) : G := ⟨L.w, L.h, 100, L.n, L.zs L.n⟩
structure Land.Ok (L : Land) : Prop where
  wide : 0 ≤ L.wide ∧ L.wide ≤ 255
  high : 0 ≤ L.high ∧ L.high ≤ 255
  low : ∀ i, -32768 ≤ gi L.low i ∧ gi L.low i ≤ 32767
  more : ∀ i, 0 ≤ gi L.more i ∧ gi L.more i ≤ 255
  nl : L.low.length = L.nl ∧ L.nl ≤ 9223372036854775807
  nm : L.more.length = L.nm ∧ L.nm ≤ 9223372036854775807
def Land.V (L : Land) (sl sm : Value) : Value := .agg ⟨[.int .u8 L.wide, .int .u8 L.high, sl, sm]⟩
theorem Land.zs_len {L : Land} : ∀ {i : Nat}, (L.zs i).length = i * 2
  | 0 => rfl
  | i + 1 => by rw [Land.zs, List.length_append, Land.zs_len]; simp; omega
theorem Land.Ok.w {L : Land} (h : L.Ok) : 1 ≤ L.w ∧ L.w ≤ 5 := by
  have h1 := Int.tmod_nonneg 5 h.wide.1
  have h2 := Int.tmod_lt_of_pos L.wide (show (0 : Int) < 5 by decide)
  unfold Land.w; omega
theorem Land.Ok.h {L : Land} (h : L.Ok) : 1 ≤ L.h ∧ L.h ≤ 5 := by
  have h1 := Int.tmod_nonneg 5 h.high.1
  have h2 := Int.tmod_lt_of_pos L.high (show (0 : Int) < 5 by decide)
  unfold Land.h; omega
theorem Land.Ok.n {L : Land} (h : L.Ok) : (L.n : Int) = L.w * L.h ∧ 1 ≤ L.n ∧ L.n ≤ 25 := by
  have a := Int.mul_le_mul h.w.1 h.h.1 (by decide) (by have := h.w; omega)
  have b := Int.mul_le_mul h.w.2 h.h.2 (by have := h.h; omega) (by decide)
  unfold Land.n; omega
section
variable {g : Nat} {rd : Option Nat} {T : List Value} {D : List Nat} {A : Hp} {Q : Ex → St → Prop} {V : Value → Hp → Prop}
end
end Go.Ab.Grid
set_option maxRecDepth 100000
namespace Go.Ab.Grid
open Go Go.Ab
def upN (up : Bool) : Nat := if up then 1 else 0
def sPar (up : Bool) (bar : Option Nat) (w h : Int) (m : Nat) (zs : List Int) (sea : List Nat) : SPar := ⟨m, fun c => if some c = bar then 1073741824 else gi zs (c * 2 + upN up), fun c => (nbrs w h c).map Int.toNat, sea⟩
theorem sPar_line {up : Bool} {bar : Option Nat} {w h s : Int} {m : Nat} {zs : List Int} {sea : List Nat} (hE : gridE w h s m zs = 0) (hm60 : m ≤ 60) (hsea : ∀ c, c ∈ sea → c < m) : SLine (sPar up bar w h m zs sea) w h := by
  obtain ⟨hw, hh, hm, hv⟩ := gridE_parts hE
  have h1 := Int.mul_le_mul hw.1 hh.1 (by decide) (by omega)
  refine ⟨⟨fun c hc d hd => ?_, fun c hc => hsea c hc, fun c hc => ?_⟩, ⟨by show 1 ≤ m; omega, hm60⟩, hw, hh, hm.symm, fun _ _ => rfl⟩
  · obtain ⟨x, hx, rfl⟩ := List.mem_map.1 hd
    have := nbrs_range hw.1 hx
    show x.toNat < m
    omega
  · have := hv c hc
    show _ ≤ (if some c = bar then 1073741824 else gi zs (c * 2 + upN up)) ∧ (if some c = bar then 1073741824 else gi zs (c * 2 + upN up)) ≤ _
    split
    · omega
    · cases up
      · show _ ≤ gi zs (c * 2) ∧ gi zs (c * 2) ≤ _
        omega
      · show _ ≤ gi zs (c * 2 + 1) ∧ gi zs (c * 2 + 1) ≤ _
        omega
section
variable {g : Nat} {rd : Option Nat} {T : List Value} {D : List Nat} {A : Hp} {Q : Ex → St → Prop} {V : Value → Hp → Prop}
end
section
variable {g : Nat} {rd : Option Nat} {T : List Value} {D : List Nat} {A : Hp} {Q : Ex → St → Prop} {V : Value → Hp → Prop}
end
end Go.Ab.Grid
set_option maxRecDepth 100000
namespace Go.Ab.Grid
open Go Go.Ab
def seaN (cs : List Int) : List Nat := cs.map Int.toNat
section
variable {g : Nat} {rd : Option Nat} {T : List Value} {D : List Nat} {A : Hp} {Q : Ex → St → Prop} {V : Value → Hp → Prop}
end
end Go.Ab.Grid
set_option maxRecDepth 100000
namespace Go.Ab.Grid
open Go Go.Ab
def gB (l : List Bool) (i : Nat) : Bool := l.getD i false
section
variable {g : Nat} {rd : Option Nat} {T : List Value} {D : List Nat} {A : Hp} {Q : Ex → St → Prop} {V : Value → Hp → Prop}
end
end Go.Ab.Grid
set_option maxRecDepth 100000
namespace Go.Ab.Grid
open Go Go.Ab
section
variable {g : Nat} {rd : Option Nat} {T : List Value} {D : List Nat} {A : Hp} {Q : Ex → St → Prop} {V : Value → Hp → Prop}
end
end Go.Ab.Grid
set_option maxRecDepth 100000
namespace Go.Ab.Grid
open Go Go.Ab
structure Ord where
  n : Nat
  cs : List Int
  nh : Nat
  hs : List Int
  ne : Nat
  es : List Int
  m : Nat
def Ord.c (o : Ord) (i : Nat) : Int := (gi o.cs i).tmod o.m
def Ord.h (o : Ord) (i : Nat) : Int := gi o.hs (i % o.nh)
def Ord.e (o : Ord) (i : Nat) : Int := gi o.es (i % o.ne)
def Ord.ls (o : Ord) : Nat → List Int
  | 0 => []
  | i + 1 => o.ls i ++ [o.c i, o.h i, o.e i]
def Ord.rv (o : Ord) : Nat → List Int
  | 0 => []
  | i + 1 => [o.c i, o.h i, o.e i] ++ o.rv i
def wset (cur : List Int) (c : Nat) (lo hi : Int) : List Int := (cur.set (c * 2) (max (gi cur (c * 2)) lo)).set (c * 2 + 1) (min (gi cur (c * 2 + 1)) hi)
def Ord.want (o : Ord) (zs : List Int) : Nat → List Int
  | 0 => zs
  | i + 1 => wset (o.want zs i) (o.c i).toNat (o.h i - o.e i) (o.h i + o.e i)
structure Ord.Ok (o : Ord) : Prop where
  n : o.cs.length = o.n ∧ o.n ≤ 12
  nh : o.hs.length = o.nh ∧ 0 < o.nh ∧ o.nh ≤ 9223372036854775807
  ne : o.es.length = o.ne ∧ 0 < o.ne ∧ o.ne ≤ 9223372036854775807
  m : 1 ≤ o.m ∧ o.m ≤ 25
  c : ∀ i, 0 ≤ gi o.cs i ∧ gi o.cs i ≤ 255
  h : ∀ i, -32768 ≤ gi o.hs i ∧ gi o.hs i ≤ 32767
  e : ∀ i, 0 ≤ gi o.es i ∧ gi o.es i ≤ 255
theorem Ord.Ok.cr {o : Ord} (h : o.Ok) (i : Nat) : 0 ≤ o.c i ∧ o.c i < o.m := ⟨Int.tmod_nonneg _ (h.c i).1, Int.tmod_lt_of_pos _ (by have := h.m; omega)⟩
section
variable {g : Nat} {rd : Option Nat} {T : List Value} {D : List Nat} {A : Hp} {Q : Ex → St → Prop} {V : Value → Hp → Prop}
structure OrdI (o : Ord) (zs : List Int) (A0 : Hp) (Y : Nat) (i : Nat) (s10 s11 : Value) (A : Hp) : Prop where
  hb : But Y A0 A
  hY : A.get Y = some (.cells (ints (o.want zs i)) false)
  a10 : AccS A0.n A 3 (ints (o.ls i)) s10
  a11 : RdS A 3 i (ints (o.rv i)) s11
  b11 : ∀ z, blkOf s11 = some z → A0.n ≤ z ∧ blkOf s10 ≠ some z
end
end Go.Ab.Grid
set_option maxRecDepth 100000
namespace Go.Ab.Grid
open Go Go.Ab
section
variable {g : Nat} {rd : Option Nat} {T : List Value} {D : List Nat} {A : Hp} {Q : Ex → St → Prop} {V : Value → Hp → Prop}
end
end Go.Ab.Grid
set_option maxRecDepth 100000
namespace Go.Ab.Grid
open Go Go.Ab
structure NarR (zs : List Int) (m : Nat) (R : Nat → Int → Int → Prop) (cur : List Int) : Prop where
  len : cur.length = m * 2
  lo : ∀ j, j < m → ∀ t, gi cur (j * 2) ≤ t ↔ gi zs (j * 2) ≤ t ∧ ∀ a b, R j a b → a ≤ t
  hi : ∀ j, j < m → ∀ t, t ≤ gi cur (j * 2 + 1) ↔ t ≤ gi zs (j * 2 + 1) ∧ ∀ a b, R j a b → t ≤ b
theorem wset_lo {cur : List Int} {c j : Nat} {lo hi : Int} (h : c * 2 + 2 ≤ cur.length) : gi (wset cur c lo hi) (j * 2) = if j = c then max (gi cur (c * 2)) lo else gi cur (j * 2) := by
  unfold wset
  rw [gi_setI (by simp; omega), if_neg (by omega), gi_setI (by omega)]
  by_cases h' : j = c
  · rw [if_pos (by omega), if_pos h']
  · rw [if_neg (by omega), if_neg h']
theorem wset_hi {cur : List Int} {c j : Nat} {lo hi : Int} (h : c * 2 + 2 ≤ cur.length) : gi (wset cur c lo hi) (j * 2 + 1) = if j = c then min (gi cur (c * 2 + 1)) hi else gi cur (j * 2 + 1) := by
  unfold wset
  rw [gi_setI (by simp; omega)]
  by_cases h' : j = c
  · rw [if_pos (by omega), if_pos h']
  · rw [if_neg (by omega), if_neg h', gi_setI (by omega), if_neg (by omega)]
theorem NarR.start {zs : List Int} {m : Nat} (h : zs.length = m * 2) : NarR zs m (fun _ _ _ => False) zs := ⟨h, fun _ _ _ => by simp, fun _ _ _ => by simp⟩
theorem NarR.congr {zs : List Int} {m : Nat} {R R' : Nat → Int → Int → Prop} {cur : List Int} (h : NarR zs m R cur) (hR : ∀ j a b, R j a b ↔ R' j a b) : NarR zs m R' cur :=
  ⟨h.len, fun j hj t => by rw [h.lo j hj t]; simp only [hR], fun j hj t => by rw [h.hi j hj t]; simp only [hR]⟩
theorem NarR.next {zs : List Int} {m c : Nat} {R : Nat → Int → Int → Prop} {cur : List Int} {x y : Int} (h : NarR zs m R cur) (hc : c < m) : NarR zs m (fun j a b => R j a b ∨ (j = c ∧ a = x ∧ b = y)) (wset cur c x y) := by
  have hl := h.len
  refine ⟨by unfold wset; simp [hl], fun j hj t => ?_, fun j hj t => ?_⟩
  · rw [wset_lo (by omega)]
    have h1 := h.lo j hj t
    by_cases hjc : j = c
    · subst hjc
      rw [if_pos rfl, Int.max_le, h1]
      constructor
      · rintro ⟨⟨p1, p2⟩, p3⟩
        refine ⟨p1, fun a b hr => ?_⟩
        rcases hr with hr | ⟨_, rfl, _⟩
        · exact p2 a b hr
        · exact p3
      · rintro ⟨p1, p2⟩
        exact ⟨⟨p1, fun a b hr => p2 a b (.inl hr)⟩, p2 x y (.inr ⟨rfl, rfl, rfl⟩)⟩
    · rw [if_neg hjc, h1]
      constructor
      · rintro ⟨p1, p2⟩
        refine ⟨p1, fun a b hr => ?_⟩
        rcases hr with hr | ⟨h', _, _⟩
        · exact p2 a b hr
        · exact absurd h' hjc
      · rintro ⟨p1, p2⟩
        exact ⟨p1, fun a b hr => p2 a b (.inl hr)⟩
  · rw [wset_hi (by omega)]
    have h1 := h.hi j hj t
    by_cases hjc : j = c
    · subst hjc
      rw [if_pos rfl, Int.le_min, h1]
      constructor
      · rintro ⟨⟨p1, p2⟩, p3⟩
        refine ⟨p1, fun a b hr => ?_⟩
        rcases hr with hr | ⟨_, _, rfl⟩
        · exact p2 a b hr
        · exact p3
      · rintro ⟨p1, p2⟩
        exact ⟨⟨p1, fun a b hr => p2 a b (.inl hr)⟩, p2 x y (.inr ⟨rfl, rfl, rfl⟩)⟩
    · rw [if_neg hjc, h1]
      constructor
      · rintro ⟨p1, p2⟩
        refine ⟨p1, fun a b hr => ?_⟩
        rcases hr with hr | ⟨h', _, _⟩
        · exact p2 a b hr
        · exact absurd h' hjc
      · rintro ⟨p1, p2⟩
        exact ⟨p1, fun a b hr => p2 a b (.inl hr)⟩
theorem NarR.uniq {zs : List Int} {m : Nat} {R : Nat → Int → Int → Prop} {u v : List Int} (h : NarR zs m R u) (h' : NarR zs m R v) : u = v := by
  refine list_gi (by rw [h.len, h'.len]) fun i hi => ?_
  rw [h.len] at hi
  obtain ⟨j, hj⟩ : ∃ j, i = j * 2 ∨ i = j * 2 + 1 := ⟨i / 2, by omega⟩
  rcases hj with rfl | rfl
  · have a := (h.lo j (by omega) (gi v (j * 2))).2 ((h'.lo j (by omega) _).1 (Int.le_refl _))
    have b := (h'.lo j (by omega) (gi u (j * 2))).2 ((h.lo j (by omega) _).1 (Int.le_refl _))
    omega
  · have a := (h.hi j (by omega) (gi v (j * 2 + 1))).2 ((h'.hi j (by omega) _).1 (Int.le_refl _))
    have b := (h'.hi j (by omega) (gi u (j * 2 + 1))).2 ((h.hi j (by omega) _).1 (Int.le_refl _))
    omega
def Vd (m : Nat) (cur : List Int) : Prop := ∀ j, j < m → gi cur (j * 2) ≤ gi cur (j * 2 + 1)
theorem Land.zs_get {L : Land} : ∀ {n j : Nat}, j < n → gi (L.zs n) (j * 2) = L.lo j ∧ gi (L.zs n) (j * 2 + 1) = L.hi j
  | 0, j, h => by omega
  | n + 1, j, h => by
    have hl : (L.zs n).length = n * 2 := Land.zs_len
    rw [Land.zs]
    by_cases hj : j = n
    · subst hj
      exact ⟨gi_r (j := 0) hl, gi_r (j := 1) hl⟩
    · obtain ⟨a, b⟩ := Land.zs_get (L := L) (n := n) (j := j) (by omega)
      rw [gi_l (by omega), gi_l (by omega)]
      exact ⟨a, b⟩
theorem Land.Ok.rng {L : Land} (h : L.Ok) (i : Nat) : -32768 ≤ L.lo i ∧ L.lo i ≤ L.hi i ∧ L.hi i ≤ 33022 := by
  have a : -32768 ≤ L.lo i ∧ L.lo i ≤ 32767 := by unfold Land.lo; split; exact h.low _; omega
  have b : L.lo i ≤ L.hi i ∧ L.hi i ≤ L.lo i + 255 := by
    unfold Land.hi
    split
    · have := h.more (i % L.nm); omega
    · omega
  omega
theorem Land.Ok.vd {L : Land} (h : L.Ok) : Vd L.n L.G.zs := fun j hj => by
  obtain ⟨a, b⟩ := Land.zs_get (L := L) hj
  show gi (L.zs L.n) (j * 2) ≤ gi (L.zs L.n) (j * 2 + 1)
  rw [a, b]
  exact (h.rng j).2.1
theorem Land.Ok.E {L : Land} (h : L.Ok) : L.G.E = 0 := by
  have hw := h.w
  have hh := h.h
  have hn := h.n
  show gridE L.w L.h 100 L.n (L.zs L.n) = 0
  refine gridE_d ?_ (by rw [← hn.1]; exact (wrId (by omega) (by omega)).symm) ?_
  · rw [show (decide (1 ≤ L.w) && decide (L.w ≤ 24)) = true by simp; omega, show (decide (1 ≤ L.h) && decide (L.h ≤ 24)) = true by simp; omega]
    decide
  · rw [List.any_eq_false]
    intro j hj
    rw [List.mem_range] at hj
    obtain ⟨a, b⟩ := Land.zs_get (L := L) hj
    have r := h.rng j
    have : grd (L.zs L.n) j = true := by
      unfold grd validB
      rw [a, b]
      simp
      omega
    rw [this]
    decide
theorem Ord.Ok.snd {o : Ord} (hO : o.Ok) {i j : Nat} {ls : List Int} (h : gi ls (j * 3) = o.c i ∧ gi ls (j * 3 + 1) = o.h i ∧ gi ls (j * 3 + 2) = o.e i) : sndC o.m ls j = 0 := by
  have a := hO.cr i
  have b : -32768 ≤ o.h i ∧ o.h i ≤ 32767 := hO.h _
  have c : 0 ≤ o.e i ∧ o.e i ≤ 255 := hO.e _
  rw [sndC, h.1, h.2.1, h.2.2, if_pos (by simp; omega), if_pos (by simp; omega), if_pos (by simp; omega)]
end Go.Ab.Grid
set_option maxRecDepth 100000
namespace Go.Ab.Grid
open Go Go.Ab
def asg324 : ACode := (.ops [oM 12 23])
def body324 : ACode := (.block 1
 (.ops [
oL 24 11,
oL 25 10,
oM 26 12,
oI 27 25 26 1,
oL 28 27,
oP 29 (.min [.t 24, .t 28]),
oT 11 29 1]))
def leastL (o : List Int) (l : List Int) : Int := l.foldl (fun a d => min a (gi o d.toNat)) 1073741824
section
variable {g : Nat} {rd : Option Nat} {T : List Value} {D : List Nat} {A : Hp} {Q : Ex → St → Prop} {V : Value → Hp → Prop}
structure BrI (A0 : Hp) (X11 : Nat) (T1 : List Value) (o done : List Int) (A : Hp) : Prop where
  e : But X11 A0 A
  n : A0.n + 3 ≤ A.n
  m : A.get A0.n = some .marks
  l : A.get (A0.n + 1) = some (recL T1 [23] asg324 body324)
  r : A.get (A0.n + 2) = some (.cells (ints dirI) false)
  s : A.get X11 = some (.cells [.int .i64 (leastL o done)] false)
theorem BrI.push {A0 A : Hp} {X11 : Nat} {T1 : List Value} {o done : List Int} (h : BrI A0 X11 T1 o done A) (b : ABlk) : BrI A0 X11 T1 o done (A.push b) := by
  obtain ⟨e, n, m, l, r, s⟩ := h
  have k := Ext'.push A b
  exact ⟨e.trans (But.of_ext k), by simp; omega, k.get m, k.get l, k.get r, k.get s⟩
end
end Go.Ab.Grid
set_option maxRecDepth 100000
namespace Go.Ab.Grid
open Go Go.Ab
def PondC (w h : Int) (m : Nat) (zs cs : List Int) (i : Nat) (a b : Int) : Prop :=
  if (i : Int) ∈ cs then a = 0 ∧ b = 0 else ∃ ol oh, SFin (sPar false (some i) w h m zs (seaN cs)) ol ∧ SFin (sPar true (some i) w h m zs (seaN cs)) oh ∧ a = max 0 (leastL ol (nbrs w h i) - gi zs (i * 2 + 1)) ∧ b = max 0 (leastL oh (nbrs w h i) - gi zs (i * 2))
section
variable {g : Nat} {rd : Option Nat} {T : List Value} {D : List Nat} {A : Hp} {Q : Ex → St → Prop} {V : Value → Hp → Prop}
theorem SFin.rng {P : SPar} {o : List Int} (h : SFin P o) (c : Nat) : -1073741824 ≤ gi o c ∧ gi o c ≤ 1073741824 := by
  by_cases hc : c < P.m
  · exact h.le c hc
  · have : gi o c = 0 := by simp [gi, List.getD, show o.length ≤ c by have := h.len; omega]
    omega
end
end Go.Ab.Grid
set_option maxRecDepth 100000
namespace Go.Ab.Grid
open Go Go.Ab
def mz (xs ys : List Int) : Nat → List Int
  | 0 => xs
  | i + 1 => wset (mz xs ys i) i (gi ys (i * 2)) (gi ys (i * 2 + 1))
theorem mz_len {xs ys : List Int} : ∀ {i : Nat}, (mz xs ys i).length = xs.length
  | 0 => rfl
  | i + 1 => by rw [mz]; unfold wset; simp [mz_len (i := i)]
theorem mz_get {xs ys : List Int} {m j : Nat} (hx : xs.length = m * 2) : ∀ {i : Nat}, i ≤ m → j < m →
    gi (mz xs ys i) (j * 2) = (if j < i then max (gi xs (j * 2)) (gi ys (j * 2)) else gi xs (j * 2)) ∧ gi (mz xs ys i) (j * 2 + 1) = if j < i then min (gi xs (j * 2 + 1)) (gi ys (j * 2 + 1)) else gi xs (j * 2 + 1)
  | 0, _, _ => by simp [mz]
  | i + 1, hi, hj => by
    obtain ⟨a, b⟩ := mz_get (ys := ys) (j := j) hx (i := i) (by omega) hj
    obtain ⟨c, d⟩ := mz_get (ys := ys) (j := i) hx (i := i) (by omega) (by omega)
    have hl : (mz xs ys i).length = m * 2 := by rw [mz_len, hx]
    rw [mz, wset_lo (by omega), wset_hi (by omega)]
    by_cases h : j = i
    · subst h
      rw [if_neg (by omega)] at c d
      rw [if_pos rfl, if_pos rfl, c, d, if_pos (Nat.lt_succ_self _), if_pos (Nat.lt_succ_self _)]
      exact ⟨rfl, rfl⟩
    · rw [if_neg h, if_neg h, a, b]
      by_cases h2 : j < i
      · rw [if_pos h2, if_pos h2, if_pos (by omega), if_pos (by omega)]; exact ⟨rfl, rfl⟩
      · rw [if_neg h2, if_neg h2, if_neg (by omega), if_neg (by omega)]; exact ⟨rfl, rfl⟩
def Fit (xs ys : List Int) (j : Nat) : Prop := max (gi xs (j * 2)) (gi ys (j * 2)) ≤ min (gi xs (j * 2 + 1)) (gi ys (j * 2 + 1))
theorem leastL_mono {o o' : List Int} {l : List Int} (h : ∀ d, d ∈ l → gi o d.toNat ≤ gi o' d.toNat) : leastL o l ≤ leastL o' l := by
  unfold leastL
  have key : ∀ (l : List Int), (∀ d, d ∈ l → gi o d.toNat ≤ gi o' d.toNat) → ∀ a a' : Int, a ≤ a' → l.foldl (fun a d => min a (gi o d.toNat)) a ≤ l.foldl (fun a d => min a (gi o' d.toNat)) a' := by
    intro l
    induction l with
    | nil => intro _ a a' h; exact h
    | cons x l ih =>
      intro hl a a' ha
      simp only [List.foldl_cons]
      have := hl x (List.mem_cons_self ..)
      exact ih (fun d hd => hl d (List.mem_cons_of_mem _ hd)) _ _ (by omega)
  exact key l h _ _ (Int.le_refl _)
section
variable {w h s s' : Int} {m : Nat} {zs zs' : List Int} {sea : List Nat}
theorem sp_mono {up up' : Bool} {bar : Option Nat} {o o' : List Int} (hE : gridE w h s m zs = 0) (hE' : gridE w h s' m zs' = 0) (hm : m ≤ 60) (hsea : ∀ c, c ∈ sea → c < m) (hh : ∀ c, c < m → gi zs (c * 2 + upN up) ≤ gi zs' (c * 2 + upN up'))
    (h1 : SFin (sPar up bar w h m zs sea) o) (h2 : SFin (sPar up' bar w h m zs' sea) o') {c : Nat} (hc : c < m) : gi o c ≤ gi o' c :=
  SFin.mono (sPar_line hE hm hsea).ok (sPar_line hE' hm hsea).ok rfl rfl (fun _ _ => rfl) (fun c hc => by
    show (if some c = bar then (1073741824 : Int) else _) ≤ if some c = bar then (1073741824 : Int) else _
    split
    · exact Int.le_refl _
    · exact hh c hc) h1 h2 hc
theorem PondC.mono {cs : List Int} {i : Nat} {a b a' b' : Int} (hE : gridE w h s m zs = 0) (hE' : gridE w h s' m zs' = 0) (hm : m ≤ 60) (hsea : ∀ c, c ∈ seaN cs → c < m)
    (hh : ∀ j, j < m → gi zs (j * 2) ≤ gi zs' (j * 2) ∧ gi zs' (j * 2) ≤ gi zs' (j * 2 + 1) ∧ gi zs' (j * 2 + 1) ≤ gi zs (j * 2 + 1)) (hi : i < m) (h1 : PondC w h m zs cs i a b) (h2 : PondC w h m zs' cs i a' b') : a ≤ a' ∧ b' ≤ b ∧ a' ≤ b' := by
  unfold PondC at h1 h2
  by_cases hin : (i : Int) ∈ cs
  · rw [if_pos hin] at h1 h2; omega
  · rw [if_neg hin] at h1 h2
    obtain ⟨ol, oh, f1, f2, e1, e2⟩ := h1
    obtain ⟨ol', oh', f1', f2', e1', e2'⟩ := h2
    have hnb : ∀ d, d ∈ nbrs w h i → d.toNat < m := fun d hd => (sPar_line (up := false) (bar := none) hE hm hsea).ok.nb i hi d.toNat (List.mem_map_of_mem hd)
    have a1 := leastL_mono fun d hd => sp_mono (up := false) (up' := false) hE hE' hm hsea (fun c hc => (hh c hc).1) f1 f1' (hnb d hd)
    have a2 := leastL_mono fun d hd => sp_mono (up := true) (up' := true) hE' hE hm hsea (fun c hc => (hh c hc).2.2) f2' f2 (hnb d hd)
    have a3 := leastL_mono fun d hd => sp_mono (up := false) (up' := true) hE' hE' hm hsea (fun c hc => (hh c hc).2.1) f1' f2' (hnb d hd)
    have := hh i hi
    omega
end
structure Met (x y : G) (Z : List Int) : Prop where
  len : Z.length = x.m * 2
  at_ : ∀ j, j < x.m → gi Z (j * 2) = max (gi x.zs (j * 2)) (gi y.zs (j * 2)) ∧ gi Z (j * 2 + 1) = min (gi x.zs (j * 2 + 1)) (gi y.zs (j * 2 + 1)) ∧ gi Z (j * 2) ≤ gi Z (j * 2 + 1)
theorem Met.of {x y : G} (lx : x.zs.length = x.m * 2) (h : ∀ j, j < x.m → Fit x.zs y.zs j) : Met x y (mz x.zs y.zs x.m) :=
  ⟨by rw [mz_len, lx], fun j hj => by
    obtain ⟨a, b⟩ := mz_get (ys := y.zs) lx (Nat.le_refl _) hj
    rw [if_pos hj] at a b
    have := h j hj
    unfold Fit at this
    rw [a, b]
    exact ⟨rfl, rfl, this⟩⟩
theorem Met.E {L : Land} {y : G} {Z : List Int} (hO : L.Ok) (h : Met L.G y Z) : gridE L.w L.h 100 L.n Z = 0 := by
  have hw := hO.w
  have hh := hO.h
  have hn := hO.n
  refine gridE_d ?_ (by rw [← hn.1]; exact (wrId (by omega) (by omega)).symm) ?_
  · rw [show (decide (1 ≤ L.w) && decide (L.w ≤ 24)) = true by simp; omega, show (decide (1 ≤ L.h) && decide (L.h ≤ 24)) = true by simp; omega]
    decide
  · rw [List.any_eq_false]
    intro j hj
    rw [List.mem_range] at hj
    obtain ⟨a, b⟩ := Land.zs_get (L := L) hj
    obtain ⟨c, d, e⟩ := h.at_ j hj
    have r := hO.rng j
    rw [show L.G.zs = L.zs L.n from rfl, a] at c
    rw [show L.G.zs = L.zs L.n from rfl, b] at d
    have : grd Z j = true := by
      unfold grd validB
      simp
      omega
    rw [this]
    decide
end Go.Ab.Grid
set_option maxRecDepth 100000
namespace Go.Ab.Grid
open Go Go.Ab
def gQ (l : List Bool) (i : Nat) : Bool := l.getD i false
theorem gQ_rep {m c : Nat} : gQ (List.replicate m false) c = false := by
  unfold gQ
  rw [List.getD_eq_getElem?_getD, List.getElem?_replicate]
  split <;> rfl
structure WetI (P : SPar) (lv : Int) (out : List Bool) (q : List Nat) (cur : Option (Nat × List Nat)) (ss : List Nat) : Prop where
  len : out.length = P.m
  snd : ∀ c, c < P.m → gQ out c = true → ∃ v, v < lv ∧ P.Der c v
  qin : ∀ c, c ∈ q → c < P.m ∧ gQ out c = true
  sea : ∀ c, c ∈ ss → P.ht c < lv → gQ out c = true
  cl : ∀ a, a < P.m → gQ out a = true → a ∈ q ∨ (∃ dn, cur = some (a, dn) ∧ ∀ d, d ∈ dn → P.ht d < lv → gQ out d = true) ∨ (∀ d, d ∈ P.nb a → P.ht d < lv → gQ out d = true)
theorem WetI.start {P : SPar} {lv : Int} : WetI P lv (List.replicate P.m false) [] none [] :=
  ⟨by simp, fun c _ h => absurd h (by rw [gQ_rep]; decide), fun c h => absurd h (by simp), fun c h => absurd h (by simp), fun a _ h => absurd h (by rw [gQ_rep]; decide)⟩
theorem WetI.take {P : SPar} {lv : Int} {out : List Bool} {q ss : List Nat} {c : Nat} (h : WetI P lv out (c :: q) none ss) : WetI P lv out q (some (c, [])) ss :=
  ⟨h.len, h.snd, fun d hd => h.qin d (List.mem_cons_of_mem _ hd), h.sea, fun a ha hg => by
    rcases h.cl a ha hg with h1 | ⟨dn, h1, _⟩ | h1
    · rcases List.mem_cons.1 h1 with h2 | h2
      · subst h2; exact .inr (.inl ⟨[], rfl, fun d hd => by cases hd⟩)
      · exact .inl h2
    · cases h1
    · exact .inr (.inr h1)⟩
theorem WetI.shut {P : SPar} {lv : Int} {out : List Bool} {q ss : List Nat} {c : Nat} {dn : List Nat} (h : WetI P lv out q (some (c, dn)) ss) (hdn : ∀ d, d ∈ P.nb c → d ∈ dn) : WetI P lv out q none ss :=
  ⟨h.len, h.snd, h.qin, h.sea, fun a ha hg => by
    rcases h.cl a ha hg with h1 | ⟨dn', h1, h2⟩ | h1
    · exact .inl h1
    · cases h1; exact .inr (.inr fun d hd hh => h2 d (hdn d hd) hh)
    · exact .inr (.inr h1)⟩
theorem WetI.fin {P : SPar} {lv : Int} {out : List Bool} {o : List Int} (hP : SParOk P) (h : WetI P lv out [] none P.sea) (ho : SFin P o) (hlv : lv ≤ 1073741824) {c : Nat} (hc : c < P.m) : gQ out c = decide (gi o c < lv) := by
  have up : ∀ {a : Nat} {v : Int}, P.Der a v → v < lv → gQ out a = true := by
    intro a v hd
    induction hd with
    | base hs => intro hv; exact h.sea _ hs (by omega)
    | step h1 h2 ih =>
      intro hv
      have ha := h1.lt hP
      rcases h.cl _ ha (ih (by omega)) with h3 | ⟨_, h3, _⟩ | h3
      · cases h3
      · cases h3
      · exact h3 _ h2 (by omega)
  by_cases hg : gQ out c = true
  · obtain ⟨v, hv, hd⟩ := h.snd c hc hg
    have := ho.least hP hd
    rw [hg]
    simp
    omega
  · have : ¬ gi o c < lv := fun hlt => by
      rcases ho.out c hc with h1 | h1
      · rw [h1] at hlt; unfold noneV at hlt; omega
      · exact hg (up h1 hlt)
    simp [hg, this]
end Go.Ab.Grid
set_option maxRecDepth 100000
namespace Go.Ab.Grid
open Go Go.Ab
section
variable {w h s : Int} {m : Nat} {zs : List Int}
end
end Go.Ab.Grid
set_option maxRecDepth 100000
namespace Go.Ab.Grid
open Go Go.Ab
section
variable {g : Nat} {rd : Option Nat} {T : List Value} {D : List Nat} {A : Hp} {Q : Ex → St → Prop} {V : Value → Hp → Prop}
end
end Go.Ab.Grid
set_option maxRecDepth 100000
namespace Go.Ab.Grid
open Go Go.Ab
theorem SFin.congr {P P' : SPar} {o : List Int} (hP : SParOk P) (hm : P.m = P'.m) (hs : P.sea = P'.sea) (hn : ∀ c, c < P.m → P.nb c = P'.nb c) (hh : ∀ c, c < P.m → P.ht c = P'.ht c) (h : SFin P o) : SFin P' o := by
  have key : ∀ {c : Nat} {v : Int}, P.Der c v → P'.Der c v := by
    intro c v hd
    induction hd with
    | @base a ha =>
      rw [hh a (hP.sea _ ha)]
      exact .base (hs ▸ ha)
    | @step a b v h1 h2 ih =>
      have ha := h1.lt hP
      rw [hh b (hP.nb _ ha _ h2)]
      exact .step ih (by rw [← hn a ha]; exact h2)
  refine ⟨by rw [h.len, hm], fun c hc => h.le c (by omega), fun c hc => ?_, fun c hc => ?_, fun a ha hne d hd => ?_⟩
  · rcases h.out c (by omega) with h1 | h1
    · exact .inl h1
    · exact .inr (key h1)
  · have hc' : c ∈ P.sea := by rw [hs]; exact hc
    rw [← hh c (hP.sea _ hc')]
    exact h.sea c hc'
  · have hd' : d ∈ P.nb a := by rw [hn a (by omega)]; exact hd
    rw [← hh d (hP.nb _ (by omega) _ hd')]
    exact h.cl a (by omega) hne d hd'
def ptZ (f : Nat → Int) : Nat → List Int
  | 0 => []
  | i + 1 => ptZ f i ++ [f i, f i]
section
variable {w h s s' : Int} {m n : Nat} {zs Z : List Int}
end
end Go.Ab.Grid
set_option maxRecDepth 100000
namespace Go.Ab.Grid
open Go Go.Ab
abbrev boxG (w h s : Int) (v : Value) : ABlk := .cells [.int .i64 w, .int .i64 h, .int .i64 s, v] false
structure TwoR (g M Xa Xb : Nat) (A : Hp) (la lb : List Int) (sa sb : Value) (w h s va vb : Int) (sa' : Value) (A1 : Hp) (sb' : Value) (A2 A3 : Hp) : Prop where
  e1 : appendA g (A.push (.cells [.int .i64 va, .int .i64 va] false)) 2 16 sa (.slice (some ⟨A.n, 0, some 2⟩) 1 1) = some (sa', A1)
  e2 : appendA g (A1.push (.cells [.int .i64 vb, .int .i64 vb] false)) 2 16 sb (.slice (some ⟨A1.n, 0, some 2⟩) 1 1) = some (sb', A2)
  k1 : ∀ z, z < A.n → blkOf sa ≠ some z → A1.get z = A.get z
  xa : A2.get Xa = some (boxG w h s sa)
  xb : (A2.set Xa (some (boxG w h s sa'))).get Xb = some (boxG w h s sb)
  h3 : A3 = (A2.set Xa (some (boxG w h s sa'))).set Xb (some (boxG w h s sb'))
  n3 : A.n ≤ A3.n
  ga : A3.get Xa = some (boxG w h s sa')
  gb : A3.get Xb = some (boxG w h s sb')
  aa : AccS M A3 2 (ints (la ++ [va, va])) sa'
  ab : AccS M A3 2 (ints (lb ++ [vb, vb])) sb'
  old : ∀ z, z < A.n → z ≠ Xa → z ≠ Xb → blkOf sa ≠ some z → blkOf sb ≠ some z → A3.get z = A.get z
  ba : ∀ z, blkOf sa' = some z → A.n ≤ z
  bb : ∀ z, blkOf sb' = some z → A.n ≤ z
  d : ∀ z, blkOf sa' = some z → blkOf sb' ≠ some z
structure D4 (A0 : Hp) (N : Nat) (w h s : Int) (f1 f2 f3 f4 : Nat → Int) (i : Nat) (s1 s2 s3 s4 : Value) (A : Hp) : Prop where
  b : ∀ z, z < N → A.get z = A0.get z
  n : N + 4 ≤ A.n
  x1 : A.get N = some (boxG w h s s1)
  x2 : A.get (N + 1) = some (boxG w h s s2)
  x3 : A.get (N + 2) = some (boxG w h s s3)
  x4 : A.get (N + 3) = some (boxG w h s s4)
  a1 : AccS (N + 4) A 2 (ints (ptZ f1 i)) s1
  a2 : AccS (N + 4) A 2 (ints (ptZ f2 i)) s2
  a3 : AccS (N + 4) A 2 (ints (ptZ f3 i)) s3
  a4 : AccS (N + 4) A 2 (ints (ptZ f4 i)) s4
  d12 : ∀ z, blkOf s1 = some z → blkOf s2 ≠ some z
  d13 : ∀ z, blkOf s1 = some z → blkOf s3 ≠ some z
  d14 : ∀ z, blkOf s1 = some z → blkOf s4 ≠ some z
  d23 : ∀ z, blkOf s2 = some z → blkOf s3 ≠ some z
  d24 : ∀ z, blkOf s2 = some z → blkOf s4 ≠ some z
  d43 : ∀ z, blkOf s4 = some z → blkOf s3 ≠ some z
section
variable {g : Nat} {rd : Option Nat} {T : List Value} {D : List Nat} {A : Hp} {Q : Ex → St → Prop} {V : Value → Hp → Prop}
theorem D4.next {A0 A C0 A3 A4 A6 : Hp} {g N i Ya Yb : Nat} {w h s v1 v2 v3 v4 : Int} {f1 f2 f3 f4 : Nat → Int} {s1 s2 s3 s4 s1' s2' s3' s4' : Value} {B1 B2 B3 B4 : Hp} (h0 : D4 A0 N w h s f1 f2 f3 f4 i s1 s2 s3 s4 A) (e0 : Ext' A C0) (hYa : A.n ≤ Ya ∧ Ya < C0.n) (hYb : A.n ≤ Yb ∧ Yb < C0.n)
    (t1 : TwoR g (N + 4) N (N + 1) C0 (ptZ f1 i) (ptZ f2 i) s1 s2 w h s v1 v2 s1' B1 s2' B2 A3) (hm : ∀ z, z ≠ Ya → z ≠ Yb → A4.get z = A3.get z) (hn : A4.n = A3.n)
    (t2 : TwoR g (N + 4) (N + 3) (N + 2) A4 (ptZ f4 i) (ptZ f3 i) s4 s3 w h s v4 v3 s4' B3 s3' B4 A6) (q1 : v1 = f1 i) (q2 : v2 = f2 i) (q3 : v3 = f3 i) (q4 : v4 = f4 i) : D4 A0 N w h s f1 f2 f3 f4 (i + 1) s1' s2' s3' s4' A6 := by
  have n0 := h0.n
  have nC := e0.1
  have n3 := t1.n3
  have n6 := t2.n3
  have lo : ∀ {l : List Int} {sv : Value} {z : Nat}, AccS (N + 4) A 2 (ints l) sv → blkOf sv = some z → N + 4 ≤ z ∧ z < A.n := fun ha hz => ha.blk_ge hz
  have a3 : ∀ z, z < C0.n → z ≠ N → z ≠ N + 1 → blkOf s1 ≠ some z → blkOf s2 ≠ some z → z ≠ Ya → z ≠ Yb → A4.get z = C0.get z := fun z h1 h2 h3 h4 h5 h6 h7 => by rw [hm z h6 h7, t1.old z h1 h2 h3 h4 h5]
  have c1 : ∀ z, blkOf s1' = some z → A6.get z = A3.get z := fun z hz => by
    have hb := t1.ba z hz
    have hl := (t1.aa.blk_ge hz).2
    rw [t2.old z (by omega) (by omega) (by omega) (fun h => by have := (lo h0.a4 h).2; omega) (fun h => by have := (lo h0.a3 h).2; omega), hm z (by omega) (by omega)]
  have c2 : ∀ z, blkOf s2' = some z → A6.get z = A3.get z := fun z hz => by
    have hb := t1.bb z hz
    have hl := (t1.ab.blk_ge hz).2
    rw [t2.old z (by omega) (by omega) (by omega) (fun h => by have := (lo h0.a4 h).2; omega) (fun h => by have := (lo h0.a3 h).2; omega), hm z (by omega) (by omega)]
  subst q1; subst q2; subst q3; subst q4
  refine ⟨fun z hz => ?_, by omega, ?_, ?_, t2.gb, t2.ga, t1.aa.keepB c1, t1.ab.keepB c2, t2.ab, t2.aa, t1.d, fun z hz h => ?_, fun z hz h => ?_, fun z hz h => ?_, fun z hz h => ?_, t2.d⟩
  · have k : ∀ {l : List Int} {sv : Value}, AccS (N + 4) A 2 (ints l) sv → blkOf sv ≠ some z := fun ha h => by have := (lo ha h).1; omega
    rw [t2.old z (by omega) (by omega) (by omega) (k h0.a4) (k h0.a3), a3 z (by omega) (by omega) (by omega) (k h0.a1) (k h0.a2) (by omega) (by omega), e0.2 z (by omega), h0.b z hz]
  · rw [t2.old N (by omega) (by omega) (by omega) (fun h => by have := (lo h0.a4 h).1; omega) (fun h => by have := (lo h0.a3 h).1; omega), hm N (by omega) (by omega), t1.ga]
  · rw [t2.old (N + 1) (by omega) (by omega) (by omega) (fun h => by have := (lo h0.a4 h).1; omega) (fun h => by have := (lo h0.a3 h).1; omega), hm (N + 1) (by omega) (by omega), t1.gb]
  · have := t2.bb z h; have := (t1.aa.blk_ge hz).2; omega
  · have := t2.ba z h; have := (t1.aa.blk_ge hz).2; omega
  · have := t2.bb z h; have := (t1.ab.blk_ge hz).2; omega
  · have := t2.ba z h; have := (t1.ab.blk_ge hz).2; omega
end
end Go.Ab.Grid
set_option maxRecDepth 100000
namespace Go.Ab.Grid
open Go Go.Ab
def endT (up : Bool) : Value := .func (.func (if up then 274 else 332)) ⟨[]⟩ ⟨[]⟩
def setT (up : Bool) (Xo : Nat) : Value := .func (.func (if up then 331 else 333)) ⟨[]⟩ ⟨[.pointer (some ⟨Xo, 0, none⟩)]⟩
def tPar (up : Bool) (w h : Int) (m : Nat) (zs : List Int) (st : Int) : TPar := ⟨m, fun c => if up then gi zs (c * 2 + 1) else -(gi zs (c * 2)), fun c => (nbrs w h c).map Int.toNat, st⟩
theorem tPar_ok {up : Bool} {w h s st : Int} {m : Nat} {zs : List Int} (hE : gridE w h s m zs = 0) (hst : 0 ≤ st ∧ st ≤ 2400000) : TParOk (tPar up w h m zs st) := by
  obtain ⟨hw, hh, hm, hv⟩ := gridE_parts hE
  refine ⟨fun c hc d hd => ?_, fun c hc => ?_, hst⟩
  · obtain ⟨x, hx, rfl⟩ := List.mem_map.1 hd
    have := nbrs_range hw.1 hx
    show x.toNat < m
    omega
  · have := hv c hc
    show -1200000 ≤ (if up = true then gi zs (c * 2 + 1) else -(gi zs (c * 2))) ∧ (if up = true then gi zs (c * 2 + 1) else -(gi zs (c * 2))) ≤ 1200000
    cases up <;> simp <;> omega
structure Upd (up : Bool) (m i : Nat) (o cur0 cur : List Int) : Prop where
  len : cur.length = m * 2
  hi : ∀ j, j < m → gi cur (j * 2 + 1) = if up = true ∧ j < i then gi o j else gi cur0 (j * 2 + 1)
  lo : ∀ j, j < m → gi cur (j * 2) = if up = false ∧ j < i then -(gi o j) else gi cur0 (j * 2)
def updI (up : Bool) (cur : List Int) (c : Nat) (v : Int) : List Int := if up then cur.set (c * 2 + 1) v else cur.set (c * 2) (-v)
theorem Upd.next {up : Bool} {m i : Nat} {o cur0 cur : List Int} (h : Upd up m i o cur0 cur) (hi : i < m) : Upd up m (i + 1) o cur0 (updI up cur i (gi o i)) := by
  have hl := h.len
  unfold updI
  cases up
  · refine ⟨by simp [hl], fun j hj => ?_, fun j hj => ?_⟩
    · rw [if_neg (by decide), gi_setI (by omega), if_neg (by omega), h.hi j hj]
      simp
    · rw [if_neg (by decide), gi_setI (by omega), h.lo j hj]
      by_cases hji : j = i
      · subst hji; simp
      · rw [if_neg (by omega)]
        by_cases h2 : j < i
        · rw [if_pos ⟨rfl, h2⟩, if_pos ⟨rfl, by omega⟩]
        · rw [if_neg (fun x => h2 x.2), if_neg (fun x => by have := x.2; omega)]
  · refine ⟨by simp [hl], fun j hj => ?_, fun j hj => ?_⟩
    · rw [if_pos rfl, gi_setI (by omega), h.hi j hj]
      by_cases hji : j = i
      · subst hji; simp
      · rw [if_neg (by omega)]
        by_cases h2 : j < i
        · rw [if_pos ⟨rfl, h2⟩, if_pos ⟨rfl, by omega⟩]
        · rw [if_neg (fun x => h2 x.2), if_neg (fun x => by have := x.2; omega)]
    · rw [if_pos rfl, gi_setI (by omega), if_neg (by omega), h.lo j hj]
      simp
section
variable {g : Nat} {rd : Option Nat} {T : List Value} {D : List Nat} {A : Hp} {Q : Ex → St → Prop} {V : Value → Hp → Prop}
theorem wEndT {up : Bool} {a b : Int} (ha : -1200000 ≤ a ∧ a ≤ 1200000) (hV : ∀ A', Ext' A A' → V (.int .i64 (if up then b else -a)) A') : WV AP KL g (endT up) [.agg ⟨[.int .i64 a, .int .i64 b]⟩] A V := by
  have e : wr .i64 (-a) = -a := wrId (by omega) (by omega)
  cases up
  · unfold endT
    simp (disch := as_aux_lemma => first | omega | simp only [hDs] <;> omega | simp [isCell]) [hRs, takeMarks, resA, resAll, resOne, Value.cells]
    rw [WF_body (show KL 332 = none from rfl) (show AP 332 = some F332 from rfl)]
    simp (disch := as_aux_lemma => first | omega | simp only [hDs] <;> omega | simp [isCell]) [hRs, takeMarks, resA, resAll, resOne, Value.cells, F332, e]
    exact hV _ (Ext'.push _ _)
  · unfold endT
    simp (disch := as_aux_lemma => first | omega | simp only [hDs] <;> omega | simp [isCell]) [hRs, takeMarks, resA, resAll, resOne, Value.cells]
    rw [WF_body (show KL 274 = none from rfl) (show AP 274 = some F274 from rfl)]
    simp (disch := as_aux_lemma => first | omega | simp only [hDs] <;> omega | simp [isCell]) [hRs, takeMarks, resA, resAll, resOne, Value.cells, F274]
    exact hV _ (Ext'.push _ _)
theorem wSetT {up : Bool} {Xo Y cap m c : Nat} {w h s v : Int} {cur : List Int} (hXo : A.get Xo = some (boxG w h s (.slice (some ⟨Y, 0, some 2⟩) m cap))) (hY : A.get Y = some (.cells (ints cur) false)) (hl : cur.length = m * 2) (hc : c < m) (hg : g ≤ Y) (hv : -1200000 ≤ v ∧ v ≤ 1200000)
    (hV : ∀ v', V v' (A.set Y (some (.cells (ints (updI up cur c v)) false)))) : WV AP KL g (setT up Xo) [.int .i64 c, .int .i64 v] A V := by
  have e : wr .i64 (-v) = -v := wrId (by omega) (by omega)
  cases up
  · unfold setT
    have st : storeB (some (.cells (ints cur) false)) g A Y (c * 2) [.int .i64 (-v)] 1 = some (undef, A.set Y (some (.cells (ints (updI false cur c v)) false))) := by
      have := storeB_cells (A := A) (g := g) (k := Y) (o := c * 2) (size := 1) (cs := ints cur) (vs := [.int .i64 (-v)]) rfl hg (by rw [ints_length]; omega) rfl
      rw [setRange_intsI (by omega)] at this
      rw [this]; rfl
    simp (disch := as_aux_lemma => first | omega | simp only [hDs] <;> omega | simp [isCell]) [hRs, takeMarks, resA, resAll, resOne, Value.cells]
    rw [WF_body (show KL 333 = none from rfl) (show AP 333 = some F333 from rfl)]
    simp (disch := as_aux_lemma => first | omega | simp only [hDs] <;> omega | simp [isCell]) [hRs, takeMarks, resA, resAll, resOne, Value.cells, F333, hXo, boxG, idxSA_ok, hc, hY, e, st]
    exact hV _
  · unfold setT
    have st : storeB (some (.cells (ints cur) false)) g A Y (c * 2 + 1) [.int .i64 v] 1 = some (undef, A.set Y (some (.cells (ints (updI true cur c v)) false))) := by
      have := storeB_cells (A := A) (g := g) (k := Y) (o := c * 2 + 1) (size := 1) (cs := ints cur) (vs := [.int .i64 v]) rfl hg (by rw [ints_length]; omega) rfl
      rw [setRange_intsI (by omega)] at this
      rw [this]; rfl
    simp (disch := as_aux_lemma => first | omega | simp only [hDs] <;> omega | simp [isCell]) [hRs, takeMarks, resA, resAll, resOne, Value.cells]
    rw [WF_body (show KL 331 = none from rfl) (show AP 331 = some F331 from rfl)]
    simp (disch := as_aux_lemma => first | omega | simp only [hDs] <;> omega | simp [isCell]) [hRs, takeMarks, resA, resAll, resOne, Value.cells, F331, hXo, boxG, idxSA_ok, hc, hY, st]
    exact hV _
theorem loop329a {up : Bool} {b : TB} {A0 : Hp} {w h s st : Int} {m : Nat} {zs : List Int} {sl : Value} (hb : b.Ok) (hm : m < 1000) (hE : gridE w h s m zs = 0) (hsl : RdS A0 2 m (ints zs) sl) (hslN : ∀ z, blkOf sl = some z → z < b.N0) (hg : g ≤ b.N0)
    (hQ : ∀ T' A' o L, TL b m A0 A' o L → o.length = m → (∀ c, c < m → gi o c = (tPar up w h m zs st).bs c) → (∀ z, z ∈ L ↔ ∃ c : Nat, c < m ∧ z = ((c : Int), (tPar up w h m zs st).bs c)) → L.length = m → tget T' 1 = tget T 1 → tget T' 2 = tget T 2 → tget T' 3 = tget T 3 → tget T' 6 = .pointer (some ⟨b.X8, 0, none⟩) → tget T' 7 = .pointer (some ⟨b.X7, 0, none⟩) → Q (.exit 0) ⟨T', D, A'⟩) :
    ∀ (k i : Nat) {T1 : List Value} {A : Hp} (o : List Int) (L : List (Int × Int)), i + k = m → TL b m A0 A o L → o.length = m → (∀ c, c < i → gi o c = (tPar up w h m zs st).bs c) → (∀ z, z ∈ L ↔ ∃ c : Nat, c < i ∧ z = ((c : Int), (tPar up w h m zs st).bs c)) → L.length = i →
      tget T1 0 = endT up → tget T1 1 = tget T 1 → tget T1 2 = tget T 2 → tget T1 3 = tget T 3 → tget T1 6 = .pointer (some ⟨b.X8, 0, none⟩) → tget T1 7 = .pointer (some ⟨b.X7, 0, none⟩) → tget T1 21 = sl → tget T1 22 = .int .i64 m → tget T1 23 = .int .i64 i → W AP KL g rd (.loop body329a) ⟨T1, D, A⟩ Q := by
  intro k
  have hzl : zs.length = m * 2 := by have := hsl.1; simpa using this
  have k7 := hb.n7
  have k8 := hb.n8
  have kO := hb.nO
  induction k with
  | zero =>
    intro i T1 A o L hi hT hol ho hL hLl t0 t1 t2 t3 t6 t7 t21 t22 t23
    have : i = m := by omega
    subst this
    rw [W_loop]
    simp (disch := as_aux_lemma => first | omega | simp only [hDs] <;> omega | simp [isCell]) [hRs, takeMarks, resA, resAll, resOne, Value.cells, body329a, t22, t23]
    exact hQ _ _ o L hT hol ho hL hLl (by simp [t1]) (by simp [t2]) (by simp [t3]) (by simp [t6]) (by simp [t7])
  | succ k ih =>
    intro i T1 A o L hi hT hol ho hL hLl t0 t1 t2 t3 t6 t7 t21 t22 t23
    have him : i < m := by omega
    have e5 : wr .i64 ((i : Int) + 1) = ((i + 1 : Nat) : Int) := by rw [wrId (by omega) (by omega)]; simp
    obtain ⟨gb, gc, gr, hsl', hgb⟩ := (hsl.keepB (A' := A) fun z hz => hT.low z (hslN z hz)).at him
    have t21' := t21.trans hsl'
    have hv := (gridE_parts hE).2.2.2 i him
    have hnn := hT.nn
    obtain ⟨B, hB⟩ : ∃ B, B = A.push (.cells [.int .i64 (gi zs (i * 2)), .int .i64 (gi zs (i * 2 + 1))] false) := ⟨_, rfl⟩
    have eB : Ext' A B := by rw [hB]; exact Ext'.push _ _
    have b9 : B.get A.n = some (.cells [.int .i64 (gi zs (i * 2)), .int .i64 (gi zs (i * 2 + 1))] false) := by rw [hB]; exact get_push_new
    have hTB := hT.ext hb eB
    have x7 := hTB.x7
    unfold rowS1 at x7
    rw [W_loop]
    simp (disch := as_aux_lemma => first | omega | simp only [hDs] <;> omega | simp [isCell]) [hRs, takeMarks, resA, resAll, resOne, Value.cells, body329a, t0, t7, t21', t22, t23, show ((i : Int) < m) by omega, him, idxSA_ok, hgb, ints_two (show i * 2 + 2 ≤ zs.length by omega), fillA, storeB_cells, setRange, set_push_eq, setRange_all, ← hB, x7, b9]
    refine wEndT (by omega) fun A1 e1 => ?_
    have hT1 := hTB.ext hb e1
    have n1 := (eB.trans e1).1
    obtain ⟨bs, hbs⟩ : ∃ bs, bs = (tPar up w h m zs st).bs i := ⟨_, rfl⟩
    have hbs' : (if up = true then gi zs (i * 2 + 1) else -gi zs (i * 2)) = bs := by rw [hbs]; rfl
    obtain ⟨R1, R2⟩ := hT1.row (o' := o.set i bs) hb
    obtain ⟨A2, hA2⟩ : ∃ A2, A2 = A1.set b.OB (some (.cells (ints (o.set i bs)) false)) := ⟨_, rfl⟩
    have st1 : storeB (some (.cells (ints o) false)) g A1 b.OB i [.int .i64 bs] 1 = some (undef, A2) := by
      have := storeB_cells (A := A1) (g := g) (k := b.OB) (o := i) (size := 1) (cs := ints o) (vs := [.int .i64 bs]) rfl (by omega) (by rw [ints_length]; omega) rfl
      rw [setRange_intsI (by omega)] at this
      rw [this, hA2]
    rw [← hA2] at R1 R2
    have y7 := R1.x7
    unfold rowS1 at y7
    have hgo : gi (o.set i bs) i = bs := by rw [gi_setI (by omega), if_pos rfl]
    simp (disch := as_aux_lemma => first | omega | simp only [hDs] <;> omega | simp [isCell]) [hRs, takeMarks, resA, resAll, resOne, Value.cells, hbs', t6, t7, him, idxSA_ok, hT1.ob, st1, y7, R1.ob, ints_get (show i < (o.set i bs).length by rw [List.length_set]; omega), hgo, fillA, setRange]
    refine w277T (x := (i : Int)) (y := bs) R1.hp R1.nn (by omega) (by omega) fun v' A3 L' hl' hmem hH hU => ?_
    simp (disch := as_aux_lemma => first | omega | simp only [hDs] <;> omega | simp [isCell]) [hRs, takeMarks, resA, resAll, resOne, Value.cells, t23, e5]
    refine ih (i + 1) (o.set i bs) L' (by omega) (R1.heap hb hH hU) (by simp [hol]) (fun c hc => ?_) (fun z => ?_) (by omega) ?_ ?_ ?_ ?_ ?_ ?_ ?_ ?_ ?_
    · rw [gi_setI (by omega)]
      by_cases hci : c = i
      · subst hci; rw [if_pos rfl, hbs]
      · rw [if_neg hci]; exact ho c (by omega)
    · rw [hmem z, hL z]
      constructor
      · rintro (⟨c, h1, h2⟩ | h1)
        · exact ⟨c, by omega, h2⟩
        · exact ⟨i, by omega, by rw [h1, hbs]⟩
      · rintro ⟨c, h1, h2⟩
        by_cases hci : c = i
        · subst hci; exact .inr (by rw [h2, hbs])
        · exact .inl ⟨c, by omega, h2⟩
    all_goals simp [t0, t1, t2, t3, t6, t7, t21, t22]
theorem loop329c {up : Bool} {A0 : Hp} {Xo Y cap m OB : Nat} {w h s : Int} {o cur0 : List Int} (hm : m < 1000) (ho : o.length = m) (hor : ∀ c, c < m → -1200000 ≤ gi o c ∧ gi o c ≤ 1200000) (hXo : A0.get Xo = some (boxG w h s (.slice (some ⟨Y, 0, some 2⟩) m cap))) (hOB : A0.get OB = some (.cells (ints o) false)) (hne : Xo ≠ Y ∧ OB ≠ Y) (hYn : Y < A0.n) (hg : g ≤ Y)
    (hQ : ∀ T' A' cur, Upd up m m o cur0 cur → But Y A0 A' → A'.n = A0.n → A'.get Y = some (.cells (ints cur) false) → Q (.exit 6) ⟨T', D, A'⟩) :
    ∀ (k i : Nat) {T : List Value} {A : Hp} (cur : List Int), i + k = m → Upd up m i o cur0 cur → But Y A0 A → A.n = A0.n → A.get Y = some (.cells (ints cur) false) → tget T 1 = setT up Xo → tget T 80 = rowS1 OB m → tget T 81 = .int .i64 m → tget T 82 = .int .i64 i → W AP KL g rd (.loop body329c) ⟨T, D, A⟩ Q := by
  intro k
  induction k with
  | zero =>
    intro i T A cur hi hU hb hn hY t1 t80 t81 t82
    have : i = m := by omega
    subst this
    rw [W_loop]
    simp (disch := as_aux_lemma => first | omega | simp only [hDs] <;> omega | simp [isCell]) [hRs, takeMarks, resA, resAll, resOne, Value.cells, body329c, t81, t82]
    exact hQ _ _ cur hU hb hn hY
  | succ k ih =>
    intro i T A cur hi hU hb hn hY t1 t80 t81 t82
    have him : i < m := by omega
    have e5 : wr .i64 ((i : Int) + 1) = ((i + 1 : Nat) : Int) := by rw [wrId (by omega) (by omega)]; simp
    have aO : A.get OB = some (.cells (ints o) false) := by rw [hb.2 _ (Hp.lt_of_get hOB) hne.2]; exact hOB
    have aX : A.get Xo = some (boxG w h s (.slice (some ⟨Y, 0, some 2⟩) m cap)) := by rw [hb.2 _ (Hp.lt_of_get hXo) hne.1]; exact hXo
    unfold rowS1 at t80
    rw [W_loop]
    simp (disch := as_aux_lemma => first | omega | simp only [hDs] <;> omega | simp [isCell]) [hRs, takeMarks, resA, resAll, resOne, Value.cells, body329c, t1, t80, t81, t82, show ((i : Int) < m) by omega, him, idxSA_ok, aO, ints_get (show i < o.length by omega)]
    refine wSetT aX hY hU.len him hg (hor i him) fun v' => ?_
    simp (disch := as_aux_lemma => first | omega | simp only [hDs] <;> omega | simp [isCell]) [hRs, takeMarks, resA, resAll, resOne, Value.cells, t82, e5]
    refine ih (i + 1) (updI up cur i (gi o i)) (by omega) (hU.next him) (hb.trans (But.set (by omega) ⟨Nat.le_refl _, fun _ _ => rfl⟩)) (by simp [hn]) (get_set_same hY) ?_ ?_ ?_ ?_
    all_goals simp [t1, t80, t81, rowS1]
end
end Go.Ab.Grid
set_option maxRecDepth 100000
namespace Go.Ab.Grid
open Go Go.Ab
section
variable {g : Nat} {rd : Option Nat} {T : List Value} {D : List Nat} {A : Hp} {Q : Ex → St → Prop} {V : Value → Hp → Prop}
theorem w329 {up : Bool} {w h s st : Int} {m X2 XS Xo Y cap : Nat} {zs cur0 : List Int} {sl : Value} (hm : m < 1000) (hE : gridE w h s m zs = 0) (hst : 0 ≤ st ∧ st ≤ 2400000) (hX2 : A.get X2 = some (boxG w h s sl)) (hsl : RdS A 2 m (ints zs) sl) (hXS : A.get XS = some (.cells [.int .i64 st] false))
    (hXo : A.get Xo = some (boxG w h s (.slice (some ⟨Y, 0, some 2⟩) m cap))) (hY : A.get Y = some (.cells (ints cur0) false)) (hcl : cur0.length = m * 2) (hne : Xo ≠ Y) (hg : g ≤ Y)
    (hV : ∀ v A' o cur, TFin (tPar up w h m zs st) o → Upd up m m o cur0 cur → But Y A A' → A'.get Y = some (.cells (ints cur) false) → V v A') : WF AP KL g 329 [endT up, setT up Xo, .pointer (some ⟨X2, 0, none⟩), .pointer (some ⟨XS, 0, none⟩)] A V := by
  rw [WF_body (show KL 329 = none from rfl) (show AP 329 = some F329 from rfl)]
  obtain ⟨hw, hh, hmw, hv⟩ := gridE_parts hE
  have hYn := Hp.lt_of_get hY
  have hX2n := Hp.lt_of_get hX2
  have hXSn := Hp.lt_of_get hXS
  have hXon := Hp.lt_of_get hXo
  have hl := hsl.len
  have hPok := tPar_ok (up := up) hE hst
  obtain ⟨B, hB⟩ : ∃ B, B = ((A.push (.cells [.slice none 0 0, bef330] false)).push (.cells (ints (List.replicate m 0)) false)).push (.cells [rowS1 (A.n + 1) m] false) := ⟨_, rfl⟩
  have eB : Ext' A B := by rw [hB]; exact ((Ext'.push _ _).trans (Ext'.push _ _)).trans (Ext'.push _ _)
  have nB : B.n = A.n + 3 := by rw [hB]; rfl
  have b8 : B.get A.n = some (.cells [.slice none 0 0, bef330] false) := by rw [hB, get_push_old (by simp; omega), get_push_old (by simp), get_push_eq (by simp)]
  have bO : B.get (A.n + 1) = some (.cells (ints (List.replicate m 0)) false) := by rw [hB, get_push_old (by simp), get_push_eq (by simp)]
  have b7 : B.get (A.n + 2) = some (.cells [rowS1 (A.n + 1) m] false) := by rw [hB, get_push_eq (by simp)]
  obtain ⟨b, hb⟩ : ∃ b : TB, b = ⟨A.n, A.n + 3, A.n + 2, A.n, A.n + 1⟩ := ⟨_, rfl⟩
  have hO : b.Ok := by rw [hb]; exact ⟨by simp, by simp, by simp, by simp, by simp, by simp⟩
  obtain ⟨bN0, bN, q7, q8, qO⟩ : b.N0 = A.n ∧ b.N = A.n + 3 ∧ b.X7 = A.n + 2 ∧ b.X8 = A.n ∧ b.OB = A.n + 1 := by rw [hb]; exact ⟨rfl, rfl, rfl, rfl, rfl⟩
  have hT0 : TL b m A B (List.replicate m 0) [] := by
    refine ⟨fun z hz => eB.2 z (by omega), ?_, ?_, ⟨⟨.slice none 0 0, by rw [q8]; exact b8, ⟨.inl ⟨rfl, rfl⟩⟩⟩, by omega⟩, by omega⟩
    · rw [q7, qO]; exact b7
    · rw [qO]; exact bO
  unfold rowS1 bef330 at hB
  simp (disch := as_aux_lemma => first | omega | simp only [hDs] <;> omega | simp [isCell]) [hRs, takeMarks, resA, resAll, resOne, Value.cells, F329, hX2, boxG, hl, makeS_ok (n := m) (by omega), fillA, setRange, storeB_cells, set_push_eq, setRange_all, rowS1, ← hB, eB.get hX2]
  refine loop329a (up := up) (b := b) (A0 := A) (w := w) (h := h) (s := s) (st := st) (m := m) (zs := zs) (sl := sl) hO hm hE hsl (fun z hz => by have := hsl.blk_lt hz; omega) (by omega) (fun T1 A1 o1 L1 hT1 ho1 hob hL1 hLl u1 u2 u3 u6 u7 => ?_) m 0 (List.replicate m 0) [] (Nat.zero_add _) hT0 (by simp) (fun c hc => by omega) (fun z => by simp) rfl ?_ rfl rfl rfl ?_ ?_ ?_ ?_ ?_
  rotate_left
  · simp
  · simp [q8]
  · simp [q7]
  · simp
  · simp
  · simp
  simp at u1 u2 u3
  simp (disch := as_aux_lemma => first | omega | simp only [hDs] <;> omega | simp [isCell]) [hRs, takeMarks, resA, resAll, resOne, Value.cells]
  have hM : TMid (tPar up w h m zs st) o1 L1 none := TMid.start hPok ho1 hob hL1
  have hpot : potT o1 ≤ m * 2400000 := by
    have := potT_le (o := o1) fun c hc => by rw [hob c (by omega)]; exact (hPok.bs c (show c < m by omega)).2
    rw [ho1] at this
    exact this
  have G0 : GoT b (tPar up w h m zs st) A (2 * potT o1 + L1.length) (fD [] []) none A1 := ⟨⟨o1, L1, hT1, hM, Nat.le_refl _⟩, fun y hy => by simp [fD] at hy⟩
  refine loop329b (T := T1) (b := b) (P := tPar up w h m zs st) (A0 := A) (w := w) (h := h) (s := s) (sl := sl) (X2 := X2) (XS := XS) hO hPok hm (by omega) hXS (by omega) hw hh hmw (fun c hc => rfl) hX2 (by omega) (fun T2 A2 D2 K2 hG hD hEn v1 v7 => ?_) (2 * potT o1 + L1.length) (by omega) G0 List.nodup_nil ?_ ?_ ?_ ?_ ?_
  · obtain ⟨o, s1, s2⟩ := hEn
    have hF := s2.fin
    have hmk : ∀ x, x ∈ D2 → SafT b A2 x .marks := fun x hx => hG.F (x, .marks) (by unfold fD; simp [hx])
    have s7 := s1.x7
    unfold rowS1 at s7
    have hol : o.length = m := hF.len
    simp (disch := as_aux_lemma => first | omega | simp only [hDs] <;> omega | simp [isCell]) [hRs, takeMarks, resA, resAll, resOne, Value.cells, v7, s7]
    refine loop329c (up := up) (A0 := A2) (Xo := Xo) (Y := Y) (cap := cap) (OB := b.OB) (w := w) (h := h) (s := s) (o := o) (cur0 := cur0) hm hol (fun c hc => hF.rng hPok hc) (by rw [s1.low _ (by omega)]; exact hXo) s1.ob ⟨hne, by omega⟩ (by have := s1.nn; omega) hg (fun T3 A3 cur hU hb3 hn3 hY3 => ?_) m 0 cur0 (Nat.zero_add _) ⟨hcl, fun j hj => ?_, fun j hj => ?_⟩ ⟨Nat.le_refl _, fun _ _ _ => rfl⟩ rfl (by rw [s1.low _ (by omega)]; exact hY) ?_ ?_ ?_ ?_
    · have hlo : ∀ y, y < b.N → y ∉ D2 := fun y hy hm => by have := (hmk y hm).lo; omega
      obtain ⟨A4, m1, m2, m3⟩ := takeMarks_all D2 A3 hD fun x hx => by
        have h1 := (hmk x hx).lo
        rw [hb3.2 x (Hp.lt_of_get (hmk x hx).at_) (by omega)]
        exact (hmk x hx).at_
      simp (disch := as_aux_lemma => first | omega | simp only [hDs] <;> omega | simp [isCell]) [hRs, takeMarks, resA, resAll, resOne, Value.cells, m1]
      refine hV _ A4 o cur hF hU ⟨by have := s1.nn; omega, fun z hz hzY => ?_⟩ (by rw [m3 Y (hlo Y (by omega))]; exact hY3)
      rw [m3 z (hlo z (by omega)), hb3.2 z (by have := s1.nn; omega) hzY, s1.low z (by omega)]
    · rw [if_neg (fun x => by omega)]
    · rw [if_neg (fun x => by omega)]
    · simp [v1, u1]
    · simp [rowS1, tPar]
    · simp [tPar]
    · simp
  all_goals simp [u1, u2, u3, u6, u7]
end
end Go.Ab.Grid
