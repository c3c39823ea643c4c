/- Gates: See; what is left. -/
import Derived.Test.YtlihoghjchbjlaaGreatZ12
import Derived.Test.YtlihoghjchbjlaaGreatZ11
set_option linter.unusedSimpArgs false
set_option linter.unusedVariables false
set_option linter.unusedSectionVars false
namespace Go.Ab.Dike
open Go Go.Ab
def StepsIn (L : Nat) (A : Hp) (n : Nat) (S : Nat → StepT) (lv : Value) : Prop := ∃ B : Hp, B.n ≤ L ∧ (∀ z, z < B.n → A.get z = B.get z) ∧ Steps B n S lv
theorem StepsIn.steps {L : Nat} {A : Hp} {n : Nat} {S : Nat → StepT} {lv : Value} (h : StepsIn L A n S lv) : Steps A n S lv := by
  obtain ⟨B, _, h2, h3⟩ := h
  exact h3.mono h2
theorem StepsIn.keep {L : Nat} {A A' : Hp} {n : Nat} {S : Nat → StepT} {lv : Value} (h : StepsIn L A n S lv) (hA : ∀ z, z < L → A'.get z = A.get z) : StepsIn L A' n S lv := by
  obtain ⟨B, h1, h2, h3⟩ := h
  exact ⟨B, h1, fun z hz => (hA z (by omega)).trans (h2 z hz), h3⟩
def gateC (lv : Value) (DB n : Nat) (logs : Int) (ship : Bool) (M : Nat) (time : Int) : List Value := [.bool true, lv, .slice (some ⟨DB, 0, some 1⟩) n n, .int .i64 logs, .bool ship, .map (some M), .int .i64 time]
structure GP where
  L : Nat
  n : Nat
  S : Nat → StepT
  G : Nat
  DB : Nat
  M : Nat
  lv : Value
structure GS where
  d : List Bool
  logs : Int
  ship : Bool
  es : List Seen
  time : Int
structure GateAt (A : Hp) (p : GP) (s : GS) : Prop where
  st : StepsIn p.L A p.n p.S p.lv
  hg : A.get p.G = some (.cells (gateC p.lv p.DB p.n s.logs s.ship p.M s.time) false)
  hd : A.get p.DB = some (.cells (bools s.d) false)
  dl : s.d.length = p.n
  hm : A.get p.M = some (.map (s.es.map encE) none)
  ord : p.L ≤ p.DB ∧ p.DB < p.M ∧ p.M < p.G
theorem GateAt.lt {A : Hp} {p : GP} {s : GS} (h : GateAt A p s) : p.L ≤ p.DB ∧ p.DB < p.M ∧ p.M < p.G ∧ p.G < A.n := ⟨h.ord.1, h.ord.2.1, h.ord.2.2, Hp.lt_of_get h.hg⟩
theorem GateAt.ext {A A' : Hp} {p : GP} {s : GS} (h : GateAt A p s) (he : Ext' A A') : GateAt A' p s := by
  have := h.lt
  exact ⟨h.st.keep fun z hz => he.2 z (by omega), he.get h.hg, he.get h.hd, h.dl, he.get h.hm, h.ord⟩
def Upd (p : GP) (A A' : Hp) : Prop := A.n ≤ A'.n ∧ ∀ z, z < A.n → z ≠ p.G → z ≠ p.DB → z ≠ p.M → A'.get z = A.get z
theorem Upd.of {p : GP} {A A' : Hp} (h : Ext' A A') : Upd p A A' := ⟨h.1, fun z hz _ _ _ => h.2 z hz⟩
theorem Upd.trans {p : GP} {A A' A'' : Hp} (h : Upd p A A') (h' : Upd p A' A'') : Upd p A A'' := ⟨Nat.le_trans h.1 h'.1, fun z hz a b c => by have := h.1; rw [h'.2 z (by omega) a b c, h.2 z hz a b c]⟩
theorem Cks.nil {g : Nat} {A0 : Hp} : Cks g A0 [] := fun i h => absurd h (by simp)
theorem Cks.cons {g : Nat} {A0 : Hp} {c : Ck} {l : List Ck} (h1 : ∀ (A : Hp) (V : Value → Hp → Prop), Ext' A0 A → (∀ A', Ext' A A' → V (.bool c.b) A') → WV AP KL g c.f [] A V) (h2 : c.b = true → Cks g A0 l) : Cks g A0 (c :: l) := by
  intro i h hj
  match i with
  | 0 => exact h1
  | i + 1 =>
    exact h2 (hj 0 (by simp) (by omega)) i (by simpa using h) fun j hj' hji => hj (j + 1) (by simpa using hj') (by omega)
section
variable {g : Nat} {rd : Option Nat} {T : List Value} {D : List Nat} {A : Hp} {Q : Ex → St → Prop} {V : Value → Hp → Prop} {v : Value} {p : GP} {s : GS}
theorem w175_ok {Y : Nat} {l : List Ck} {t : Int} {fn : Fn} {cp : Array Value} (hG : GateAt A p s) (hY : A.get Y = some (.cells (ckC l) false)) (hc : Cks g A l) (hl : l.length ≤ 1000) (he : ∀ c ∈ l, c.e ≠ 0) (hg : g ≤ p.L)
    (hbad : actE t s.time l ≠ 0 → ∀ A', Ext' A A' → V (.int .i64 (actE t s.time l)) A')
    (hok : actE t s.time l = 0 → ∀ A1, A.n ≤ A1.n → (∀ z, z < A.n → z ≠ p.G → A1.get z = A.get z) → GateAt A1 p { s with time := t } →
      WV AP KL g (.func fn #[] cp) [] A1 fun _ A2 => ∃ s', GateAt A2 p s' ∧ Upd p A1 A2 ∧ ∀ A3, GateAt A3 p { s' with es := [] } → Upd p A A3 → V (.int .i64 0) A3) :
    WF AP KL g 175 [.pointer (some ⟨p.G, 0, none⟩), .int .i64 t, .func fn #[] cp, .slice (some ⟨Y, 0, some 2⟩) l.length l.length] A V := by
  rw [WF_body (show KL 175 = none from rfl) (show AP 175 = some F175 from rfl)]
  obtain ⟨B, hB⟩ : ∃ B, B = (A.push (.cells [.pointer (some ⟨p.G, 0, none⟩)] false)).push (.cells [.func fn #[] cp] false) := ⟨_, rfl⟩
  have hBn : B.n = A.n + 2 := by rw [hB]; rfl
  have eB : Ext' A B := by rw [hB]; exact (Ext'.push A _).trans (Ext'.push _ _)
  have hX4 : B.get A.n = some (.cells [.pointer (some ⟨p.G, 0, none⟩)] false) := by rw [hB, get_push_old (by simp), get_push_new]
  have hX6 : B.get (A.n + 1) = some (.cells [.func fn #[] cp] false) := by rw [hB, get_push_eq (by simp)]
  have hlt := hG.lt
  have hGB := hG.ext eB
  have hgB := hGB.hg
  unfold gateC at hgB
  simp (disch := as_aux_lemma => first | omega | simp only [hDs] <;> omega | simp [isCell]) [hRs, takeMarks, resA, resAll, resOne, Value.cells, F175, ← hB, hX4]
  refine w184_ok (l := l) hgB (eB.get hY) (hc.ext eB) hl he (by omega) (fun h A' e => ?_) fun h A1 e1 => ?_
  · simp (disch := as_aux_lemma => first | omega | simp only [hDs] <;> omega | simp [isCell]) [hRs, takeMarks, resA, resAll, resOne, Value.cells]
    exact hbad h A' (eB.trans e)
  · have n1 := e1.1
    obtain ⟨C, hC⟩ : ∃ C, C = A1.set p.G (some (.cells (gateC p.lv p.DB p.n s.logs s.ship p.M t) false)) := ⟨_, rfl⟩
    have hC' : A1.set p.G (some (.cells [.bool true, p.lv, .slice (some ⟨p.DB, 0, some 1⟩) p.n p.n, .int .i64 s.logs, .bool s.ship, .map (some p.M), .int .i64 t] false)) = C := hC.symm
    rw [hC']
    have hG1 := hGB.ext e1
    have hCn : C.n = A1.n := by rw [hC]; rfl
    have hCo : ∀ z, z ≠ p.G → C.get z = A1.get z := fun z hz => by rw [hC]; exact get_set_ne (by omega) hz
    have hGC : GateAt C p { s with time := t } := ⟨hG1.st.keep fun z hz => hCo z (by omega), by rw [hC]; exact get_set_same hG1.hg, (hCo _ (by omega)).trans hG1.hd, hG1.dl, (hCo _ (by omega)).trans hG1.hm, hG1.ord⟩
    have hAC : ∀ z, z < A.n → z ≠ p.G → C.get z = A.get z := fun z hz hzG => by rw [hCo z hzG, e1.2 z (by omega), eB.2 z hz]
    have hC4 : C.get A.n = some (.cells [.pointer (some ⟨p.G, 0, none⟩)] false) := (hCo _ (by omega)).trans (e1.get hX4)
    have hC6 : C.get (A.n + 1) = some (.cells [.func fn #[] cp] false) := (hCo _ (by omega)).trans (e1.get hX6)
    rw [WV_func, WF_body (show KL 200 = none from rfl) (show AP 200 = some F200 from rfl)]
    simp (disch := as_aux_lemma => first | omega | simp only [hDs] <;> omega | simp [isCell]) [hRs, takeMarks, resA, resAll, resOne, Value.cells, F200, hC6]
    refine WV_mono (hok h C (by omega) hAC hGC) fun _ A2 ⟨s', h1, h2, h3⟩ => ?_
    have n2 := h2.1
    have h42 := (h2.2 A.n (by omega) (by omega) (by omega) (by omega)).trans hC4
    have hg2 := h1.hg
    have hm2 := h1.hm
    unfold gateC at hg2
    simp (disch := as_aux_lemma => first | omega | simp only [hDs] <;> omega | simp [isCell]) [hRs, takeMarks, resA, resAll, resOne, Value.cells, h42, hg2, clearMA, hm2, show g ≤ p.M by omega]
    refine h3 _ ⟨h1.st.keep fun z hz => get_set_ne (by omega) (by omega), ?_, ?_, h1.dl, get_set_same hm2, h1.ord⟩ ⟨by simp; omega, fun z hz a b c => ?_⟩
    · rw [get_set_ne (by omega) (by omega)]; exact h1.hg
    · rw [get_set_ne (by omega) (by omega)]; exact h1.hd
    · rw [get_set_ne (by omega) c, h2.2 z (by omega) a b c, hAC z hz a]
end
end Go.Ab.Dike
namespace Go.Ab.Dike
open Go Go.Ab
theorem bools_len (l : List Bool) : (bools l).length = l.length := by simp [bools]
def gb (l : List Bool) (i : Nat) : Bool := l.getD i false
theorem gb_at {l : List Bool} {i : Nat} (h : i < l.length) : cellAt (bools l) i = some (.bool (gb l i)) := by simp [bools, cellAt, gb, h]
theorem actE_zero {t time : Int} {l : List Ck} (he : ∀ c ∈ l, c.e ≠ 0) (h : actE t time l = 0) : (0 ≤ t ∧ t ≤ 1000000000 ∧ time ≤ t) ∧ ∀ c ∈ l, c.b = true := by
  unfold actE at h
  split at h
  · cases h
  · split at h
    · cases h
    · refine ⟨by omega, fun c hc => ?_⟩
      cases hb : c.b with
      | true => rfl
      | false => exact absurd h (ckE_ne he ⟨c, hc, hb⟩)
def blockB (S : Nat → StepT) (d : List Bool) : Nat → Bool
  | 0 => false
  | i + 1 => blockB S d i || (gb d i && (S i).clear)
section
variable {g : Nat} {rd : Option Nat} {T : List Value} {D : List Nat} {A : Hp} {Q : Ex → St → Prop} {V : Value → Hp → Prop} {v : Value} {p : GP} {s : GS}
theorem loop196 (hG : GateAt A p s) (hn : p.n ≤ 1000) (hin : ∀ T', blockB p.S s.d p.n = true → tget T' 2 = .bool true → Q .ret ⟨T', D, A⟩) (hout : ∀ T', blockB p.S s.d p.n = false → Q (.exit 0) ⟨T', D, A⟩) :
    ∀ (r i : Nat) {T : List Value}, i + r = p.n → blockB p.S s.d i = false → tget T 0 = .pointer (some ⟨p.G, 0, none⟩) → tget T 8 = .slice (some ⟨p.DB, 0, some 1⟩) p.n p.n → tget T 9 = .int .i64 p.n → tget T 10 = .int .i64 i → W AP KL g rd (.loop body196) ⟨T, D, A⟩ Q := by
  obtain ⟨n, hnn⟩ : ∃ n, n = p.n := ⟨_, rfl⟩
  have hd := hG.hd
  have hgg := hG.hg
  have hdl := hG.dl
  unfold gateC at hgg
  have hst := hG.st.steps
  rw [← hnn] at hn hin hout hst hgg hdl ⊢
  intro r
  induction r with
  | zero =>
    intro i T hir hno t0 t8 t9 t10
    have : i = n := by omega
    subst this
    rw [W_loop]
    simp (disch := as_aux_lemma => first | omega | simp only [hDs] <;> omega | simp [isCell]) [hRs, takeMarks, resA, resAll, resOne, Value.cells, body196, t9, t10]
    exact hout _ hno
  | succ r ih =>
    intro i T hir hno t0 t8 t9 t10
    obtain ⟨x, c, ro, cells, hlv, hx, hcl, hat⟩ := hst.at (i := i) (by omega)
    obtain ⟨a, p1, p2, p3, p4, p5, p6, p7, p8, p9, ra⟩ := hat i (by omega)
    have hb := gb_at (l := s.d) (i := i) (by omega)
    have e3 := wrId (n := (i : Int) + 1) (by omega) (by omega)
    have hs1 : blockB p.S s.d (i + 1) = (gb s.d i && (p.S i).clear) := by rw [blockB, hno, Bool.false_or]
    rw [hlv] at hgg
    have stay : ∀ (m : Nat), blockB p.S s.d (i + 1) = true → blockB p.S s.d (i + 1 + m) = true := by
      intro m h
      induction m with
      | zero => exact h
      | succ m ih => rw [← Nat.add_assoc, blockB, ih, Bool.true_or]
    rw [W_loop]
    cases c1 : gb s.d i with
    | false =>
      rw [c1] at hb
      simp (disch := as_aux_lemma => first | omega | simp only [hDs] <;> omega | simp [isCell]) [hRs, takeMarks, resA, resAll, resOne, Value.cells, body196, t0, t8, t9, t10, show ((i : Int) < n) by omega, idxSA_ok, hd, hb]
      exact ih (i + 1) (by omega) (by rw [hs1, c1]; rfl) (by simp [t0]) (by simp [t8]) (by simp [t9]) (by simp [e3, t10])
    | true =>
      rw [c1] at hb
      cases c2 : (p.S i).clear with
      | false =>
        rw [c2] at p8
        simp (disch := as_aux_lemma => first | omega | simp only [hDs] <;> omega | simp [isCell]) [hRs, takeMarks, resA, resAll, resOne, Value.cells, body196, t0, t8, t9, t10, show ((i : Int) < n) by omega, idxSA_ok, hd, hb, hgg, hx, p8]
        exact ih (i + 1) (by omega) (by rw [hs1, c2, Bool.and_false]) (by simp [t0]) (by simp [t8]) (by simp [t9]) (by simp [e3, t10])
      | true =>
        rw [c2] at p8
        simp (disch := as_aux_lemma => first | omega | simp only [hDs] <;> omega | simp [isCell]) [hRs, takeMarks, resA, resAll, resOne, Value.cells, body196, t0, t8, t9, t10, show ((i : Int) < n) by omega, idxSA_ok, hd, hb, hgg, hx, p8]
        refine hin _ ?_ (by simp)
        have := stay (n - (i + 1)) (by rw [hs1, c1, c2]; rfl)
        rwa [show i + 1 + (n - (i + 1)) = n by omega] at this
theorem w196_ok (hG : GateAt A p s) (hn : p.n ≤ 1000) (hV : V (.bool (blockB p.S s.d p.n)) A) : WF AP KL g 196 [.pointer (some ⟨p.G, 0, none⟩)] A V := by
  rw [WF_body (show KL 196 = none from rfl) (show AP 196 = some F196 from rfl)]
  have hgg := hG.hg
  unfold gateC at hgg
  simp (disch := as_aux_lemma => first | omega | simp only [hDs] <;> omega | simp [isCell]) [hRs, takeMarks, resA, resAll, resOne, Value.cells, F196, hgg]
  refine loop196 hG hn ?_ ?_ p.n 0 (by omega) rfl (by simp) (by simp) (by simp) (by simp)
  · intro T' hb t2
    simp (disch := as_aux_lemma => first | omega | simp only [hDs] <;> omega | simp [isCell]) [hRs, takeMarks, resA, resAll, resOne, Value.cells, t2]
    rw [hb] at hV; exact hV
  · intro T' hb
    simp (disch := as_aux_lemma => first | omega | simp only [hDs] <;> omega | simp [isCell]) [hRs, takeMarks, resA, resAll, resOne, Value.cells]
    rw [hb] at hV; exact hV
def shipL (s : GS) (p : GP) (enters : Bool) (X3 X4 : Nat) : List Ck :=
  [⟨.func 194, ⟨[.pointer (some ⟨X3, 0, none⟩), .pointer (some ⟨X4, 0, none⟩)]⟩, 6, !(s.ship == enters)⟩, ⟨.func 195, ⟨[.pointer (some ⟨X4, 0, none⟩), .pointer (some ⟨X3, 0, none⟩)]⟩, 6, !enters || !blockB p.S s.d p.n⟩]
theorem w150_ok {b : Bool} {t : Int} (hG : GateAt A p s) (hn : p.n ≤ 1000) (hg : g ≤ p.L)
    (hbad : ∀ e A', e ≠ 0 → Ext' A A' → V (.int .i64 e) A')
    (hok : ∀ A', (0 ≤ t ∧ t ≤ 1000000000 ∧ s.time ≤ t) → (!(s.ship == b)) = true → (!b || !blockB p.S s.d p.n) = true → Upd p A A' → GateAt A' p { s with ship := b, es := [], time := t } → V (.int .i64 0) A') : WF AP KL g 150 [.pointer (some ⟨p.G, 0, none⟩), .bool b, .int .i64 t] A V := by
  rw [WF_body (show KL 150 = none from rfl) (show AP 150 = some F150 from rfl)]
  have hlt := hG.lt
  obtain ⟨l, hl⟩ : ∃ l, l = shipL s p b A.n (A.n + 1) := ⟨_, rfl⟩
  obtain ⟨B, hB⟩ : ∃ B, B = ((A.push (.cells [.pointer (some ⟨p.G, 0, none⟩)] false)).push (.cells [.bool b] false)).push (.cells (ckC l) false) := ⟨_, rfl⟩
  have hBn : B.n = A.n + 3 := by rw [hB]; rfl
  have eB : Ext' A B := by rw [hB]; exact ((Ext'.push A _).trans (Ext'.push _ _)).trans (Ext'.push _ _)
  have hX3 : B.get A.n = some (.cells [.pointer (some ⟨p.G, 0, none⟩)] false) := by rw [hB, get_push_old (by simp only [Hp.n_push]; omega), get_push_old (by simp), get_push_new]
  have hX4 : B.get (A.n + 1) = some (.cells [.bool b] false) := by rw [hB, get_push_old (by simp), get_push_eq (by simp)]
  have hY : B.get (A.n + 2) = some (.cells (ckC l) false) := by rw [hB, get_push_eq (by simp)]
  have hB' : ((A.push (.cells [.pointer (some ⟨p.G, 0, none⟩)] false)).push (.cells [.bool b] false)).push (.cells [.func (.func 194) ⟨[]⟩ ⟨[.pointer (some ⟨A.n, 0, none⟩), .pointer (some ⟨A.n + 1, 0, none⟩)]⟩, .int .i64 6, .func (.func 195) ⟨[]⟩ ⟨[.pointer (some ⟨A.n + 1, 0, none⟩), .pointer (some ⟨A.n, 0, none⟩)]⟩, .int .i64 6] false) = B := by rw [hB, hl]; rfl
  have hGB := hG.ext eB
  have hll : l.length = 2 := by rw [hl]; rfl
  simp (disch := as_aux_lemma => first | omega | simp only [hDs] <;> omega | simp [isCell]) [hRs, takeMarks, resA, resAll, resOne, Value.cells, F150, zer2, slitA, fillA, setRange, hB']
  have hc : Cks g B l := by
    rw [hl]
    refine Cks.cons (fun A1 V1 e1 h1 => ?_) fun _ => Cks.cons (fun A1 V1 e1 h1 => ?_) fun _ => Cks.nil
    · show WV AP KL g (.func (.func 194) ⟨[]⟩ ⟨[.pointer (some ⟨A.n, 0, none⟩), .pointer (some ⟨A.n + 1, 0, none⟩)]⟩) [] A1 V1
      rw [WV_func, WF_body (show KL 194 = none from rfl) (show AP 194 = some F194 from rfl)]
      have g3 := e1.get hX3
      have g4 := e1.get hX4
      have gg := (hGB.ext e1).hg
      unfold gateC at gg
      simp (disch := as_aux_lemma => first | omega | simp only [hDs] <;> omega | simp [isCell]) [hRs, takeMarks, resA, resAll, resOne, Value.cells, F194, g3, g4, gg]
      have := h1 A1 (Ext'.refl _)
      exact this
    · show WV AP KL g (.func (.func 195) ⟨[]⟩ ⟨[.pointer (some ⟨A.n + 1, 0, none⟩), .pointer (some ⟨A.n, 0, none⟩)]⟩) [] A1 V1
      rw [WV_func, WF_body (show KL 195 = none from rfl) (show AP 195 = some F195 from rfl)]
      have g3 := e1.get hX3
      have g4 := e1.get hX4
      have h2 := h1 A1 (Ext'.refl _)
      simp only at h2
      cases b with
      | false =>
        simp (disch := as_aux_lemma => first | omega | simp only [hDs] <;> omega | simp [isCell]) [hRs, takeMarks, resA, resAll, resOne, Value.cells, F195, g4]
        exact h2
      | true =>
        simp (disch := as_aux_lemma => first | omega | simp only [hDs] <;> omega | simp [isCell]) [hRs, takeMarks, resA, resAll, resOne, Value.cells, F195, g3, g4]
        refine w196_ok (hGB.ext e1) hn ?_
        simp (disch := as_aux_lemma => first | omega | simp only [hDs] <;> omega | simp [isCell]) [hRs, takeMarks, resA, resAll, resOne, Value.cells]
        exact h2
  have hle : ∀ c ∈ l, c.e ≠ 0 := by
    rw [hl]
    intro c hc
    simp only [shipL, List.mem_cons, List.not_mem_nil, or_false] at hc
    rcases hc with rfl | rfl
    · show (6 : Int) ≠ 0; decide
    · show (6 : Int) ≠ 0; decide
  have key := w175_ok (g := g) (Y := A.n + 2) (l := l) (t := t) (fn := .func 193) (cp := ⟨[.pointer (some ⟨A.n + 1, 0, none⟩), .pointer (some ⟨A.n, 0, none⟩)]⟩) (A := B) (p := p) (s := s) (V := fun v A' => ∃ e : Int, v = .int .i64 e ∧ V (.int .i64 e) A') hGB hY hc (by omega) hle hg (fun h A' e => ⟨_, rfl, hbad _ A' h (eB.trans e)⟩) fun h A1 n1 o1 hG1 => ?_
  · rw [hll] at key
    refine WF_mono key fun v A' ⟨e, h1, h2⟩ => ?_
    subst h1
    simp (disch := as_aux_lemma => first | omega | simp only [hDs] <;> omega | simp [isCell]) [hRs, takeMarks, resA, resAll, resOne, Value.cells]
    exact h2
  · rw [WV_func, WF_body (show KL 193 = none from rfl) (show AP 193 = some F193 from rfl)]
    have g3 := (o1 A.n (by omega) (by omega)).trans hX3
    have g4 := (o1 (A.n + 1) (by omega) (by omega)).trans hX4
    have gg := hG1.hg
    have hgn := Hp.lt_of_get gg
    obtain ⟨hz1, hz2⟩ := actE_zero hle h
    rw [hl] at hz2
    have b1 := hz2 _ (List.mem_cons_self ..)
    have b2 := hz2 _ (List.mem_cons_of_mem _ (List.mem_cons_self ..))
    unfold gateC at gg
    simp (disch := as_aux_lemma => first | omega | simp only [hDs] <;> omega | simp [isCell]) [hRs, takeMarks, resA, resAll, resOne, Value.cells, F193, g3, g4, gg, storeB_cells, setRange]
    have hne : ∀ (b' : Option ABlk) z, z ≠ p.G → (A1.set p.G b').get z = A1.get z := fun b' z hz => get_set_ne hgn hz
    refine ⟨{ s with ship := b, time := t }, ⟨hG1.st.keep fun z hz => hne _ z (by omega), get_set_same hG1.hg, (hne _ _ (by omega)).trans hG1.hd, hG1.dl, (hne _ _ (by omega)).trans hG1.hm, hG1.ord⟩, ⟨by simp, fun z hz a _ _ => hne _ z a⟩, fun A3 h3 u3 => hok A3 hz1 b1 b2 ((Upd.of eB).trans u3) h3⟩
def bringL (s : GS) (k : Int) (X3 X4 : Nat) : List Ck :=
  [⟨.func 255, ⟨[.pointer (some ⟨X4, 0, none⟩)]⟩, 3, decide (1 ≤ k)⟩, ⟨.func 256, ⟨[.pointer (some ⟨X4, 0, none⟩), .pointer (some ⟨X3, 0, none⟩)]⟩, 9, decide (k ≤ 100 - s.logs)⟩]
theorem w233_ok {k t : Int} (hG : GateAt A p s) (hlg : 0 ≤ s.logs ∧ s.logs ≤ 1000000) (hg : g ≤ p.L)
    (hbad : ∀ e A', e ≠ 0 → Ext' A A' → V (.int .i64 e) A')
    (hok : ∀ A', (0 ≤ t ∧ t ≤ 1000000000 ∧ s.time ≤ t) → 1 ≤ k ∧ k ≤ 100 - s.logs → Upd p A A' → GateAt A' p { s with logs := s.logs + k, es := [], time := t } → V (.int .i64 0) A') : WF AP KL g 233 [.pointer (some ⟨p.G, 0, none⟩), .int .i64 k, .int .i64 t] A V := by
  rw [WF_body (show KL 233 = none from rfl) (show AP 233 = some F233 from rfl)]
  have hlt := hG.lt
  obtain ⟨l, hl⟩ : ∃ l, l = bringL s k A.n (A.n + 1) := ⟨_, rfl⟩
  obtain ⟨B, hB⟩ : ∃ B, B = ((A.push (.cells [.pointer (some ⟨p.G, 0, none⟩)] false)).push (.cells [.int .i64 k] false)).push (.cells (ckC l) false) := ⟨_, rfl⟩
  have hBn : B.n = A.n + 3 := by rw [hB]; rfl
  have eB : Ext' A B := by rw [hB]; exact ((Ext'.push A _).trans (Ext'.push _ _)).trans (Ext'.push _ _)
  have hX3 : B.get A.n = some (.cells [.pointer (some ⟨p.G, 0, none⟩)] false) := by rw [hB, get_push_old (by simp only [Hp.n_push]; omega), get_push_old (by simp), get_push_new]
  have hX4 : B.get (A.n + 1) = some (.cells [.int .i64 k] false) := by rw [hB, get_push_old (by simp), get_push_eq (by simp)]
  have hY : B.get (A.n + 2) = some (.cells (ckC l) false) := by rw [hB, get_push_eq (by simp)]
  have hB' : ((A.push (.cells [.pointer (some ⟨p.G, 0, none⟩)] false)).push (.cells [.int .i64 k] false)).push (.cells [.func (.func 255) ⟨[]⟩ ⟨[.pointer (some ⟨A.n + 1, 0, none⟩)]⟩, .int .i64 3, .func (.func 256) ⟨[]⟩ ⟨[.pointer (some ⟨A.n + 1, 0, none⟩), .pointer (some ⟨A.n, 0, none⟩)]⟩, .int .i64 9] false) = B := by rw [hB, hl]; rfl
  have hGB := hG.ext eB
  have hll : l.length = 2 := by rw [hl]; rfl
  simp (disch := as_aux_lemma => first | omega | simp only [hDs] <;> omega | simp [isCell]) [hRs, takeMarks, resA, resAll, resOne, Value.cells, F233, zer2, slitA, fillA, setRange, hB']
  have hc : Cks g B l := by
    rw [hl]
    refine Cks.cons (fun A1 V1 e1 h1 => ?_) fun _ => Cks.cons (fun A1 V1 e1 h1 => ?_) fun _ => Cks.nil
    · show WV AP KL g (.func (.func 255) ⟨[]⟩ ⟨[.pointer (some ⟨A.n + 1, 0, none⟩)]⟩) [] A1 V1
      rw [WV_func, WF_body (show KL 255 = none from rfl) (show AP 255 = some F255 from rfl)]
      have g4 := e1.get hX4
      simp (disch := as_aux_lemma => first | omega | simp only [hDs] <;> omega | simp [isCell]) [hRs, takeMarks, resA, resAll, resOne, Value.cells, F255, g4]
      exact h1 A1 (Ext'.refl _)
    · show WV AP KL g (.func (.func 256) ⟨[]⟩ ⟨[.pointer (some ⟨A.n + 1, 0, none⟩), .pointer (some ⟨A.n, 0, none⟩)]⟩) [] A1 V1
      rw [WV_func, WF_body (show KL 256 = none from rfl) (show AP 256 = some F256 from rfl)]
      have g3 := e1.get hX3
      have g4 := e1.get hX4
      have gg := (hGB.ext e1).hg
      unfold gateC at gg
      have e3 := wrId (n := 100 - s.logs) (by omega) (by omega)
      simp (disch := as_aux_lemma => first | omega | simp only [hDs] <;> omega | simp [isCell]) [hRs, takeMarks, resA, resAll, resOne, Value.cells, F256, g3, g4, gg, e3]
      exact h1 A1 (Ext'.refl _)
  have hle : ∀ c ∈ l, c.e ≠ 0 := by
    rw [hl]
    intro c hc
    simp only [bringL, List.mem_cons, List.not_mem_nil, or_false] at hc
    rcases hc with rfl | rfl
    · show (3 : Int) ≠ 0; decide
    · show (9 : Int) ≠ 0; decide
  have key := w175_ok (g := g) (Y := A.n + 2) (l := l) (t := t) (fn := .func 254) (cp := ⟨[.pointer (some ⟨A.n, 0, none⟩), .pointer (some ⟨A.n + 1, 0, none⟩)]⟩) (A := B) (p := p) (s := s) (V := fun v A' => ∃ e : Int, v = .int .i64 e ∧ V (.int .i64 e) A') hGB hY hc (by omega) hle hg (fun h A' e => ⟨_, rfl, hbad _ A' h (eB.trans e)⟩) fun h A1 n1 o1 hG1 => ?_
  · rw [hll] at key
    refine WF_mono key fun v A' ⟨e, h1, h2⟩ => ?_
    subst h1
    simp (disch := as_aux_lemma => first | omega | simp only [hDs] <;> omega | simp [isCell]) [hRs, takeMarks, resA, resAll, resOne, Value.cells]
    exact h2
  · rw [WV_func, WF_body (show KL 254 = none from rfl) (show AP 254 = some F254 from rfl)]
    have g3 := (o1 A.n (by omega) (by omega)).trans hX3
    have g4 := (o1 (A.n + 1) (by omega) (by omega)).trans hX4
    have gg := hG1.hg
    have hgn := Hp.lt_of_get gg
    obtain ⟨hz1, hz2⟩ := actE_zero hle h
    rw [hl] at hz2
    have b1 := of_decide_eq_true (hz2 _ (List.mem_cons_self ..))
    have b2 := of_decide_eq_true (hz2 _ (List.mem_cons_of_mem _ (List.mem_cons_self ..)))
    unfold gateC at gg
    have e3 := wrId (n := s.logs + k) (by omega) (by omega)
    simp (disch := as_aux_lemma => first | omega | simp only [hDs] <;> omega | simp [isCell]) [hRs, takeMarks, resA, resAll, resOne, Value.cells, F254, g3, g4, gg, e3, storeB_cells, setRange]
    have hne : ∀ (b' : Option ABlk) z, z ≠ p.G → (A1.set p.G b').get z = A1.get z := fun b' z hz => get_set_ne hgn hz
    refine ⟨{ s with logs := s.logs + k, time := t }, ⟨hG1.st.keep fun z hz => hne _ z (by omega), get_set_same hG1.hg, (hne _ _ (by omega)).trans hG1.hd, hG1.dl, (hne _ _ (by omega)).trans hG1.hm, hG1.ord⟩, ⟨by simp, fun z hz a _ _ => hne _ z a⟩, fun A3 h3 u3 => hok A3 hz1 ⟨b1, b2⟩ ((Upd.of eB).trans u3) h3⟩
def aftDone (S : Nat → StepT) (d : List Bool) (i : Nat) : Bool := (List.range (S i).an).all fun k => gb d (gi (S i).al k).toNat
theorem w181_ok {i : Nat} {a : Int} {j n X : Nat} (hG : GateAt A p s) (hX : A.get X = some (.cells [.pointer (some ⟨p.G, 0, none⟩)] false)) (ha : a = (j : Int)) (hj : j < p.n) (hV : V (.bool (!gb s.d j)) A) : WF AP KL g 181 [.int .i64 a, .pointer (some ⟨X, 0, none⟩)] A V := by
  rw [WF_body (show KL 181 = none from rfl) (show AP 181 = some F181 from rfl)]
  have gg := hG.hg
  unfold gateC at gg
  obtain ⟨n, hn⟩ : ∃ n, n = p.n := ⟨_, rfl⟩
  rw [← hn] at gg hj
  have hb := gb_at (l := s.d) (i := j) (by have := hG.dl; omega)
  subst ha
  simp (disch := as_aux_lemma => first | omega | simp only [hDs] <;> omega | simp [isCell]) [hRs, takeMarks, resA, resAll, resOne, Value.cells, F181, hX, gg, hG.hd, idxSA_ok, show ((j : Int) < n) by omega, hb]
  exact hV
end
end Go.Ab.Dike
namespace Go.Ab.Dike
open Go Go.Ab
structure SOk (p : GP) : Prop where
  n32 : p.n ≤ 40
  an : ∀ i, i < p.n → (p.S i).an < 1000000
  aa : ∀ i, i < p.n → ∀ k, k < (p.S i).an → 0 ≤ gi (p.S i).al k ∧ gi (p.S i).al k < i
  lg : ∀ i, i < p.n → 0 ≤ (p.S i).logs ∧ (p.S i).logs ≤ 100
theorem setRange_bools {l : List Bool} {i : Nat} {b : Bool} (h : i < l.length) : setRange (bools l) i [.bool b] = bools (l.set i b) := by
  apply List.ext_getElem?
  intro q
  rw [setRange_get (by simp [bools]; omega)]
  simp only [List.length_singleton, bools, List.getElem?_map, List.getElem?_set]
  by_cases h1 : q = i
  · subst h1
    simp [h]
  · rw [if_neg (by omega), if_neg (by omega)]
section
variable {g : Nat} {rd : Option Nat} {T : List Value} {D : List Nat} {A : Hp} {Q : Ex → St → Prop} {V : Value → Hp → Prop} {v : Value} {p : GP} {s : GS}
theorem w177_g {k : Int} {pt : _} (hg : g ≤ A.n) (hV : ∀ A', Ext' A A' → A'.get A.n = some (.cells [.pointer pt] false) → A'.get (A.n + 1) = some (.cells [.int .i64 k] false) → V (.agg ⟨[.func (.func 201) ⟨[]⟩ ⟨[.pointer (some ⟨A.n + 1, 0, none⟩), .pointer (some ⟨A.n, 0, none⟩)]⟩, .int .i64 4]⟩) A') :
    WF AP KL g 177 [.pointer pt, .int .i64 k] A V := by
  rw [WF_body (show KL 177 = none from rfl) (show AP 177 = some F177 from rfl)]
  have e := ((Ext'.push A (.cells [.pointer pt] false)).trans (Ext'.push _ (.cells [.int .i64 k] false)))
  simp (disch := as_aux_lemma => first | omega | simp only [hDs] <;> omega | simp [isCell]) [hRs, takeMarks, resA, resAll, resOne, Value.cells, F177, fillA, setRange, storeB_cells, set_push_eq]
  refine hV _ (e.trans (Ext'.push _ _)) ?_ ?_
  · rw [get_push_old (by simp only [Hp.n_push]; omega), get_push_old (by simp), get_push_new]
  · rw [get_push_old (by simp only [Hp.n_push]; omega), get_push_eq (by simp)]
theorem w201_ok {k : Int} {X Y : Nat} (hG : GateAt A p s) (hX : A.get X = some (.cells [.int .i64 k] false)) (hY : A.get Y = some (.cells [.pointer (some ⟨p.G, 0, none⟩)] false)) (hV : V (.bool (decide (0 ≤ k) && decide (k < p.n))) A) : WF AP KL g 201 [.pointer (some ⟨X, 0, none⟩), .pointer (some ⟨Y, 0, none⟩)] A V := by
  rw [WF_body (show KL 201 = none from rfl) (show AP 201 = some F201 from rfl)]
  have gg := hG.hg
  unfold gateC at gg
  have hl := hG.st.steps.len
  by_cases c : 0 ≤ k
  · rw [show (decide (0 ≤ k) && decide (k < (p.n : Int))) = decide (k < (p.n : Int)) by simp [c]] at hV
    simp (disch := as_aux_lemma => first | omega | simp only [hDs] <;> omega | simp [isCell]) [hRs, takeMarks, resA, resAll, resOne, Value.cells, F201, hX, hY, gg, hl, c]
    exact hV
  · rw [show (decide (0 ≤ k) && decide (k < (p.n : Int))) = false by simp [c]] at hV
    simp (disch := as_aux_lemma => first | omega | simp only [hDs] <;> omega | simp [isCell]) [hRs, takeMarks, resA, resAll, resOne, Value.cells, F201, hX, hY, gg, c]
    exact hV
def doL (s : GS) (p : GP) (k : Int) (XA XB X3 X4 : Nat) : List Ck :=
  [⟨.func 201, ⟨[.pointer (some ⟨XA, 0, none⟩), .pointer (some ⟨XB, 0, none⟩)]⟩, 4, decide (0 ≤ k) && decide (k < p.n)⟩,
   ⟨.func 178, ⟨[.pointer (some ⟨X3, 0, none⟩), .pointer (some ⟨X4, 0, none⟩)]⟩, 5, !gb s.d k.toNat⟩,
   ⟨.func 179, ⟨[.pointer (some ⟨X3, 0, none⟩), .pointer (some ⟨X4, 0, none⟩)]⟩, 6, aftDone p.S s.d k.toNat⟩,
   ⟨.func 182, ⟨[.pointer (some ⟨X3, 0, none⟩), .pointer (some ⟨X4, 0, none⟩)]⟩, 6, !(p.S k.toNat).clear || !s.ship⟩,
   ⟨.func 183, ⟨[.pointer (some ⟨X3, 0, none⟩), .pointer (some ⟨X4, 0, none⟩)]⟩, 18, decide ((p.S k.toNat).logs ≤ s.logs)⟩]
theorem doL_cks {k : Int} {XA XB X3 X4 : Nat} (hG : GateAt A p s) (hS : SOk p) (hA : A.get XA = some (.cells [.int .i64 k] false)) (hB : A.get XB = some (.cells [.pointer (some ⟨p.G, 0, none⟩)] false)) (h3 : A.get X3 = some (.cells [.pointer (some ⟨p.G, 0, none⟩)] false)) (h4 : A.get X4 = some (.cells [.int .i64 k] false)) (hlg : g ≤ A.n) : Cks g A (doL s p k XA XB X3 X4) := by
  have hdl := hG.dl
  refine Cks.cons (fun A1 V1 e1 h1 => ?_) fun hk => ?_
  · show WV AP KL g (.func (.func 201) ⟨[]⟩ ⟨[.pointer (some ⟨XA, 0, none⟩), .pointer (some ⟨XB, 0, none⟩)]⟩) [] A1 V1
    rw [WV_func]
    exact w201_ok (hG.ext e1) (e1.get hA) (e1.get hB) (h1 A1 (Ext'.refl _))
  have hk' : 0 ≤ k ∧ k < p.n := by simpa using hk
  obtain ⟨j, rfl⟩ : ∃ j : Nat, k = (j : Int) := ⟨k.toNat, by omega⟩
  simp only [Int.toNat_natCast]
  obtain ⟨n, hn⟩ : ∃ n, n = p.n := ⟨_, rfl⟩
  rw [← hn] at hk' hdl
  have hjn : j < n := by omega
  have hb := gb_at (l := s.d) (i := j) (by omega)
  refine Cks.cons (fun A1 V1 e1 h1 => ?_) fun _ => Cks.cons (fun A1 V1 e1 h1 => ?_) fun _ => Cks.cons (fun A1 V1 e1 h1 => ?_) fun _ => Cks.cons (fun A1 V1 e1 h1 => ?_) fun _ => Cks.nil
  · show WV AP KL g (.func (.func 178) ⟨[]⟩ ⟨[.pointer (some ⟨X3, 0, none⟩), .pointer (some ⟨X4, 0, none⟩)]⟩) [] A1 V1
    rw [WV_func, WF_body (show KL 178 = none from rfl) (show AP 178 = some F178 from rfl)]
    have g3 := e1.get h3
    have g4 := e1.get h4
    have gg := (hG.ext e1).hg
    unfold gateC at gg
    rw [← hn] at gg
    simp (disch := as_aux_lemma => first | omega | simp only [hDs] <;> omega | simp [isCell]) [hRs, takeMarks, resA, resAll, resOne, Value.cells, F178, g3, g4, gg, (hG.ext e1).hd, idxSA_ok, hk'.2, hb]
    exact h1 A1 (Ext'.refl _)
  · show WV AP KL g (.func (.func 179) ⟨[]⟩ ⟨[.pointer (some ⟨X3, 0, none⟩), .pointer (some ⟨X4, 0, none⟩)]⟩) [] A1 V1
    rw [WV_func, WF_body (show KL 179 = none from rfl) (show AP 179 = some F179 from rfl)]
    have g3 := e1.get h3
    have g4 := e1.get h4
    have gg := (hG.ext e1).hg
    have hst := (hG.ext e1).st.steps
    rw [← hn] at hst
    obtain ⟨x, c, ro, cells, hlv, hx, hcl, hat⟩ := hst.at (i := j) hjn
    obtain ⟨a, p1, p2, p3, p4, p5, p6, p7, p8, p9, ra⟩ := hat j hjn
    unfold gateC at gg
    rw [hlv, ← hn] at gg
    simp (disch := as_aux_lemma => first | omega | simp only [hDs] <;> omega | simp [isCell]) [hRs, takeMarks, resA, resAll, resOne, Value.cells, F179, g3, g4, gg, idxSA_ok, hk'.2, hx, p3]
    have hra := ra.1
    rw [ints_length] at hra
    refine w180 (row := ints (p.S j).al) (val := fun i => .int .i64 (gi (p.S j).al i)) (p := fun i => !gb s.d (gi (p.S j).al i).toNat) ra.rdP (fun i hi => ints_get (by omega)) (fun i hi A2 V2 e2 hV2 => ?_) (hS.an j (by omega)) fun A2 e2 => ?_
    · rw [WV_func]
      have := hS.aa j (by omega) i hi
      exact w181_ok (hG := (hG.ext e1).ext e2) (i := 0) (n := 0) (j := (gi (p.S j).al i).toNat) (e2.get g3) (by omega) (by omega) (hV2 A2 (Ext'.refl _))
    · have hv := h1 A2 e2
      simp only at hv
      have hx : (List.range (p.S j).an).any (fun i => !gb s.d (gi (p.S j).al i).toNat) = !aftDone p.S s.d j := by
        unfold aftDone
        rw [← List.not_all_eq_any_not]
      rw [hx]
      simp (disch := as_aux_lemma => first | omega | simp only [hDs] <;> omega | simp [isCell]) [hRs, takeMarks, resA, resAll, resOne, Value.cells]
      exact hv
  · show WV AP KL g (.func (.func 182) ⟨[]⟩ ⟨[.pointer (some ⟨X3, 0, none⟩), .pointer (some ⟨X4, 0, none⟩)]⟩) [] A1 V1
    rw [WV_func, WF_body (show KL 182 = none from rfl) (show AP 182 = some F182 from rfl)]
    have g3 := e1.get h3
    have g4 := e1.get h4
    have gg := (hG.ext e1).hg
    have hst := (hG.ext e1).st.steps
    rw [← hn] at hst
    obtain ⟨x, c, ro, cells, hlv, hx, hcl, hat⟩ := hst.at (i := j) hjn
    obtain ⟨a, p1, p2, p3, p4, p5, p6, p7, p8, p9, ra⟩ := hat j hjn
    unfold gateC at gg
    rw [hlv, ← hn] at gg
    have hv := h1 A1 (Ext'.refl _)
    simp only at hv
    cases hcl : (p.S j).clear with
    | true =>
      rw [hcl] at p8 hv
      simp (disch := as_aux_lemma => first | omega | simp only [hDs] <;> omega | simp [isCell]) [hRs, takeMarks, resA, resAll, resOne, Value.cells, F182, g3, g4, gg, idxSA_ok, hk'.2, hx, p8]
      exact hv
    | false =>
      rw [hcl] at p8 hv
      simp (disch := as_aux_lemma => first | omega | simp only [hDs] <;> omega | simp [isCell]) [hRs, takeMarks, resA, resAll, resOne, Value.cells, F182, g3, g4, gg, idxSA_ok, hk'.2, hx, p8]
      exact hv
  · show WV AP KL g (.func (.func 183) ⟨[]⟩ ⟨[.pointer (some ⟨X3, 0, none⟩), .pointer (some ⟨X4, 0, none⟩)]⟩) [] A1 V1
    rw [WV_func, WF_body (show KL 183 = none from rfl) (show AP 183 = some F183 from rfl)]
    have g3 := e1.get h3
    have g4 := e1.get h4
    have gg := (hG.ext e1).hg
    have hst := (hG.ext e1).st.steps
    rw [← hn] at hst
    obtain ⟨x, c, ro, cells, hlv, hx, hcl, hat⟩ := hst.at (i := j) hjn
    obtain ⟨a, p1, p2, p3, p4, p5, p6, p7, p8, p9, ra⟩ := hat j hjn
    unfold gateC at gg
    rw [hlv, ← hn] at gg
    simp (disch := as_aux_lemma => first | omega | simp only [hDs] <;> omega | simp [isCell]) [hRs, takeMarks, resA, resAll, resOne, Value.cells, F183, g3, g4, gg, idxSA_ok, hk'.2, hx, p9]
    exact h1 A1 (Ext'.refl _)
theorem w147_ok {k t : Int} (hG : GateAt A p s) (hS : SOk p) (hlg : -1000000 ≤ s.logs ∧ s.logs ≤ 1000000) (hg : g ≤ p.L)
    (hbad : ∀ e A', e ≠ 0 → Ext' A A' → V (.int .i64 e) A')
    (hok : ∀ A' (j : Nat), (0 ≤ t ∧ t ≤ 1000000000 ∧ s.time ≤ t) → k = j → j < p.n → gb s.d j = false → aftDone p.S s.d j = true → (!(p.S j).clear || !s.ship) = true → (p.S j).logs ≤ s.logs → Upd p A A' → GateAt A' p { s with d := s.d.set j true, logs := s.logs - (p.S j).logs, es := [], time := t } → V (.int .i64 0) A') : WF AP KL g 147 [.pointer (some ⟨p.G, 0, none⟩), .int .i64 k, .int .i64 t] A V := by
  rw [WF_body (show KL 147 = none from rfl) (show AP 147 = some F147 from rfl)]
  have hlt := hG.lt
  obtain ⟨C, hC⟩ : ∃ C, C = (A.push (.cells [.pointer (some ⟨p.G, 0, none⟩)] false)).push (.cells [.int .i64 k] false) := ⟨_, rfl⟩
  have hCn : C.n = A.n + 2 := by rw [hC]; rfl
  have eC : Ext' A C := by rw [hC]; exact (Ext'.push A _).trans (Ext'.push _ _)
  have hX3 : C.get A.n = some (.cells [.pointer (some ⟨p.G, 0, none⟩)] false) := by rw [hC, get_push_old (by simp), get_push_new]
  have hX4 : C.get (A.n + 1) = some (.cells [.int .i64 k] false) := by rw [hC, get_push_eq (by simp)]
  simp (disch := as_aux_lemma => first | omega | simp only [hDs] <;> omega | simp [isCell]) [hRs, takeMarks, resA, resAll, resOne, Value.cells, F147, ← hC, hX3, hX4]
  refine w177_g (by omega) fun C1 ec hXB hXA => ?_
  have nc := ec.1
  obtain ⟨l, hl⟩ : ∃ l, l = doL s p k (C.n + 1) C.n A.n (A.n + 1) := ⟨_, rfl⟩
  obtain ⟨B, hB⟩ : ∃ B, B = C1.push (.cells (ckC l) false) := ⟨_, rfl⟩
  have hBn : B.n = C1.n + 1 := by rw [hB]; rfl
  have e1B : Ext' C1 B := by rw [hB]; exact Ext'.push _ _
  have eB : Ext' A B := eC.trans (ec.trans e1B)
  have hY : B.get C1.n = some (.cells (ckC l) false) := by rw [hB, get_push_new]
  have hB' : C1.push (.cells [.func (.func 201) ⟨[]⟩ ⟨[.pointer (some ⟨C.n + 1, 0, none⟩), .pointer (some ⟨C.n, 0, none⟩)]⟩, .int .i64 4, .func (.func 178) ⟨[]⟩ ⟨[.pointer (some ⟨A.n, 0, none⟩), .pointer (some ⟨A.n + 1, 0, none⟩)]⟩, .int .i64 5, .func (.func 179) ⟨[]⟩ ⟨[.pointer (some ⟨A.n, 0, none⟩), .pointer (some ⟨A.n + 1, 0, none⟩)]⟩, .int .i64 6, .func (.func 182) ⟨[]⟩ ⟨[.pointer (some ⟨A.n, 0, none⟩), .pointer (some ⟨A.n + 1, 0, none⟩)]⟩, .int .i64 6, .func (.func 183) ⟨[]⟩ ⟨[.pointer (some ⟨A.n, 0, none⟩), .pointer (some ⟨A.n + 1, 0, none⟩)]⟩, .int .i64 18] false) = B := by rw [hB, hl]; rfl
  have hGB := hG.ext eB
  have hll : l.length = 5 := by rw [hl]; rfl
  simp (disch := as_aux_lemma => first | omega | simp only [hDs] <;> omega | simp [isCell]) [hRs, takeMarks, resA, resAll, resOne, Value.cells, zer5, slitA, fillA, setRange, hB']
  have hX3B := (ec.trans e1B).get hX3
  have hX4B := (ec.trans e1B).get hX4
  have hc : Cks g B l := by rw [hl]; exact doL_cks hGB hS (e1B.get hXA) (e1B.get hXB) hX3B hX4B (by omega)
  have hle : ∀ c ∈ l, c.e ≠ 0 := by
    rw [hl]
    intro c hc
    simp only [doL, List.mem_cons, List.not_mem_nil, or_false] at hc
    rcases hc with rfl | rfl | rfl | rfl | rfl
    · show (4 : Int) ≠ 0; decide
    · show (5 : Int) ≠ 0; decide
    · show (6 : Int) ≠ 0; decide
    · show (6 : Int) ≠ 0; decide
    · show (18 : Int) ≠ 0; decide
  have key := w175_ok (g := g) (Y := C1.n) (l := l) (t := t) (fn := .func 176) (cp := ⟨[.pointer (some ⟨A.n, 0, none⟩), .pointer (some ⟨A.n + 1, 0, none⟩)]⟩) (A := B) (p := p) (s := s) (V := fun v A' => ∃ e : Int, v = .int .i64 e ∧ V (.int .i64 e) A') hGB hY hc (by omega) hle hg (fun h A' e => ⟨_, rfl, hbad _ A' h (eB.trans e)⟩) fun h A1 n1 o1 hG1 => ?_
  · rw [hll] at key
    refine WF_mono key fun v A' ⟨e, h1, h2⟩ => ?_
    subst h1
    simp (disch := as_aux_lemma => first | omega | simp only [hDs] <;> omega | simp [isCell]) [hRs, takeMarks, resA, resAll, resOne, Value.cells]
    exact h2
  · rw [WV_func, WF_body (show KL 176 = none from rfl) (show AP 176 = some F176 from rfl)]
    have g3 := (o1 A.n (by omega) (by omega)).trans hX3B
    have g4 := (o1 (A.n + 1) (by omega) (by omega)).trans hX4B
    have gg := hG1.hg
    have gd := hG1.hd
    have hgn := Hp.lt_of_get gg
    obtain ⟨hz1, hz2⟩ := actE_zero hle h
    rw [hl] at hz2
    have b1 := hz2 _ (List.mem_cons_self ..)
    have b2 := hz2 _ (List.mem_cons_of_mem _ (List.mem_cons_self ..))
    have b3 := hz2 _ (List.mem_cons_of_mem _ (List.mem_cons_of_mem _ (List.mem_cons_self ..)))
    have b4 := hz2 _ (List.mem_cons_of_mem _ (List.mem_cons_of_mem _ (List.mem_cons_of_mem _ (List.mem_cons_self ..))))
    have b5 := hz2 _ (List.mem_cons_of_mem _ (List.mem_cons_of_mem _ (List.mem_cons_of_mem _ (List.mem_cons_of_mem _ (List.mem_cons_self ..)))))
    have hk' : 0 ≤ k ∧ k < p.n := by simpa using b1
    obtain ⟨j, rfl⟩ : ∃ j : Nat, k = (j : Int) := ⟨k.toNat, by omega⟩
    simp only [Int.toNat_natCast] at b2 b3 b4 b5
    have b5 := of_decide_eq_true b5
    obtain ⟨n, hn⟩ : ∃ n, n = p.n := ⟨_, rfl⟩
    have hjn : j < n := by omega
    have hst := hG1.st.steps
    have hdl := hG1.dl
    simp only at hdl
    rw [← hn] at hst hdl
    obtain ⟨x, c, ro, cells, hlv, hx, hcl, hat⟩ := hst.at (i := j) hjn
    obtain ⟨a, p1, p2, p3, p4, p5, p6, p7, p8, p9, ra⟩ := hat j hjn
    unfold gateC at gg
    rw [hlv, ← hn] at gg
    simp only at gg gd
    have hlg' := hS.lg j (by omega)
    have e3 := wrId (n := s.logs - (p.S j).logs) (by omega) (by omega)
    have st1 : storeB (some (.cells (bools s.d) false)) g A1 p.DB j [.bool true] 1 = some (undef, A1.set p.DB (some (.cells (bools (s.d.set j true)) false))) := by
      have := storeB_cells (A := A1) (g := g) (k := p.DB) (o := j) (size := 1) (cs := bools s.d) (vs := [.bool true]) rfl (by omega) (by rw [bools_len]; omega) rfl
      rwa [setRange_bools (by omega)] at this
    obtain ⟨A2, hA2⟩ : ∃ A2, A2 = A1.set p.DB (some (.cells (bools (s.d.set j true)) false)) := ⟨_, rfl⟩
    rw [← hA2] at st1
    have hA2n : A2.n = A1.n := by rw [hA2]; rfl
    have o2 : ∀ z, z ≠ p.DB → A2.get z = A1.get z := fun z hz => by rw [hA2]; exact get_set_ne (Hp.lt_of_get gd) hz
    have g32 := (o2 A.n (by omega)).trans g3
    have g42 := (o2 (A.n + 1) (by omega)).trans g4
    have gg2 := (o2 p.G (by omega)).trans gg
    have gd2 : A2.get p.DB = some (.cells (bools (s.d.set j true)) false) := by rw [hA2]; exact get_set_same gd
    have hxL : x ≠ p.DB := by
      intro h
      subst h
      rw [gd] at hx
      cases hx
      have h1 : (bools s.d)[j * 7]? = some (.string (p.S j).name) := p2
      simp [bools] at h1
    have hx2 := (o2 x hxL).trans hx
    simp (disch := as_aux_lemma => first | omega | simp only [hDs] <;> omega | simp [isCell]) [hRs, takeMarks, resA, resAll, resOne, Value.cells, F176, g3, g4, gg, gd, idxSA_ok, hk'.2, show ((j : Int) < n) by omega, st1, g32, g42, gg2, hx2, p9, e3, storeB_cells, setRange]
    have hne : ∀ (b' : Option ABlk) z, z ≠ p.G → (A2.set p.G b').get z = A2.get z := fun b' z hz => get_set_ne (by omega) hz
    refine ⟨{ s with d := s.d.set j true, logs := s.logs - (p.S j).logs, time := t }, ⟨hG1.st.keep fun z hz => by rw [hne _ z (by omega), o2 z (by omega)], ?_, (hne _ _ (by omega)).trans gd2, by simp [← hn]; exact hdl, by rw [hne _ _ (by omega), o2 _ (by omega)]; exact hG1.hm, hG1.ord⟩, ⟨by simp; omega, fun z hz a b _ => by rw [hne _ z a, o2 z b]⟩, fun A3 h3 u3 => hok A3 j hz1 rfl (by omega) (by simpa using b2) b3 b4 b5 ((Upd.of eB).trans u3) h3⟩
    rw [hlv, ← hn]
    exact get_set_same gg2
end
end Go.Ab.Dike
namespace Go.Ab.Dike
open Go Go.Ab
def dirB (S : Nat → StepT) (k a : Nat) : Bool := decide ((a : Int) ∈ (S k).al.take (S k).an)
inductive Dep (S : Nat → StepT) (i : Nat) : Nat → Prop
  | self : Dep S i i
  | step {a k : Nat} : Dep S i a → dirB S k a = true → Dep S i k
theorem Dep.trans {S : Nat → StepT} {i j : Nat} (h : Dep S i j) : ∀ {k : Nat}, Dep S j k → Dep S i k
  | _, .self => h
  | _, .step h1 h2 => .step (Dep.trans h h1) h2
def usedL (S : Nat → StepT) (d : List Bool) : Nat → Int
  | 0 => 0
  | i + 1 => usedL S d i + if gb d i then (S i).logs else 0
theorem gb_set {d : List Bool} {i k : Nat} {b : Bool} (h : i < d.length) : gb (d.set i b) k = if k = i then b else gb d k := by
  unfold gb
  rw [List.getD_eq_getElem?_getD, List.getD_eq_getElem?_getD, List.getElem?_set]
  by_cases h1 : i = k
  · subst h1; simp [h]
  · rw [if_neg h1, if_neg (fun h => h1 h.symm)]
theorem used_set {S : Nat → StepT} {d : List Bool} {i : Nat} {b : Bool} (h : i < d.length) : ∀ n, usedL S (d.set i b) n = usedL S d n + if i < n then (if b then (S i).logs else 0) - (if gb d i then (S i).logs else 0) else 0
  | 0 => by simp [usedL]
  | n + 1 => by
    have ih := used_set (S := S) (b := b) h n
    have e : ∀ d', usedL S d' (n + 1) = usedL S d' n + if gb d' n then (S n).logs else 0 := fun _ => rfl
    rw [e, e, ih, gb_set h]
    by_cases h1 : n = i
    · subst h1
      rw [if_neg (show ¬ n < n by omega), if_pos rfl, if_pos (show n < n + 1 by omega)]
      generalize (if b = true then (S n).logs else 0) = x
      generalize (if gb d n = true then (S n).logs else 0) = y
      omega
    · rw [if_neg h1]
      generalize (if gb d n = true then (S n).logs else 0) = y
      by_cases h2 : i < n
      · rw [if_pos h2, if_pos (show i < n + 1 by omega)]; omega
      · rw [if_neg h2, if_neg (show ¬ i < n + 1 by omega)]; omega
theorem used_bd {S : Nat → StepT} {d : List Bool} : ∀ {n : Nat}, (∀ i, i < n → 0 ≤ (S i).logs ∧ (S i).logs ≤ 100) → 0 ≤ usedL S d n ∧ usedL S d n ≤ n * 100
  | 0, _ => by simp [usedL]
  | n + 1, h => by
    have ih := used_bd (d := d) (n := n) fun i hi => h i (by omega)
    have := h n (by omega)
    unfold usedL
    split <;> omega
structure UndoR (S : Nat → StepT) (n : Nat) (d d' : List Bool) (i : Nat) : Prop where
  len : d'.length = d.length
  sub : ∀ k, gb d' k = true → gb d k = true
  off : gb d' i = false
  only : ∀ k, gb d k = true → gb d' k = false → Dep S i k
  dep : ∀ a, gb d a = true → gb d' a = false → ∀ k, k < n → dirB S k a = true → gb d' k = false
structure UndoJ (S : Nat → StepT) (d d' : List Bool) (i n k : Nat) : Prop where
  len : d'.length = d.length
  sub : ∀ q, gb d' q = true → gb d q = true
  only : ∀ q, gb d q = true → gb d' q = false → Dep S i q
  dep : ∀ a, gb d a = true → gb d' a = false → ∀ q, q < n → dirB S q a = true → gb d' q = false
  depi : ∀ q, q < k → dirB S q i = true → gb d' q = false
theorem UndoJ.skip {S : Nat → StepT} {d d' : List Bool} {i n k : Nat} (h : UndoJ S d d' i n k) (hk : dirB S k i = false) : UndoJ S d d' i n (k + 1) := by
  refine ⟨h.len, h.sub, h.only, h.dep, fun q hq hd => ?_⟩
  rcases Nat.lt_or_ge q k with h1 | h1
  · exact h.depi q h1 hd
  · have : q = k := by omega
    subst this
    rw [hk] at hd; cases hd
theorem UndoJ.next {S : Nat → StepT} {d d' d'' : List Bool} {i n k : Nat} (h : UndoJ S d d' i n k) (hk : dirB S k i = true) (hr : UndoR S n d' d'' k) : UndoJ S d d'' i n (k + 1) := by
  have mono : ∀ {q}, gb d' q = false → gb d'' q = false := fun {q} hq => by
    cases hb : gb d'' q with
    | false => rfl
    | true => rw [hr.sub q hb] at hq; cases hq
  refine ⟨hr.len.trans h.len, fun q hq => h.sub q (hr.sub q hq), fun q h1 h2 => ?_, fun a h1 h2 q hq hd => ?_, fun q hq hd => ?_⟩
  · cases hb : gb d' q with
    | false => exact h.only q h1 hb
    | true => exact (Dep.step .self hk).trans (hr.only q hb h2)
  · cases hb : gb d' a with
    | false => exact mono (h.dep a h1 hb q hq hd)
    | true => exact hr.dep a hb h2 q hq hd
  · rcases Nat.lt_or_ge q k with h1 | h1
    · exact mono (h.depi q h1 hd)
    · have : q = k := by omega
      subst this; exact hr.off
theorem UndoJ.done {S : Nat → StepT} {d d' : List Bool} {i n : Nat} (hi : i < d.length) (hgi : gb d i = true) (h : UndoJ S (d.set i false) d' i n n) : UndoR S n d d' i := by
  have e : ∀ q, gb (d.set i false) q = if q = i then false else gb d q := fun q => gb_set hi
  have off : gb d' i = false := by
    cases hb : gb d' i with
    | false => rfl
    | true => have := h.sub i hb; rw [e, if_pos rfl] at this; cases this
  refine ⟨by rw [h.len, List.length_set], fun k hk => ?_, off, fun k h1 h2 => ?_, fun a h1 h2 k hk hd => ?_⟩
  · have := h.sub k hk
    rw [e] at this
    split at this
    · cases this
    · exact this
  · by_cases hki : k = i
    · subst hki; exact .self
    · exact h.only k (by rw [e, if_neg hki]; exact h1) h2
  · by_cases hai : a = i
    · subst hai; exact h.depi k hk hd
    · exact h.dep a (by rw [e, if_neg hai]; exact h1) h2 k hk hd
def pa257 : ACode := (.seq
 (.ops [
oL 6 1,
oP 7 (.nilCheck (.t 6)),
oF 8 7 2,
oL 9 8,
oM 10 0,
oI 11 9 10 1,
oL 12 11,
oP 13 (.not (.t 12))])
 (.cond (.t 13)
 .ret
 .skip))
def pb257 : ACode := (.ops [
oL 14 1,
oP 15 (.nilCheck (.t 14)),
oF 16 15 2,
oL 17 16,
oM 18 0,
oI 19 17 18 1,
⟨none, none, [], .store (.t 19) (.k (.bool false)) 1⟩])
def pc257 : ACode := (.ops [
oL 20 1,
oP 21 (.nilCheck (.t 20)),
oF 22 21 3,
oL 23 22,
oL 24 1,
oP 25 (.nilCheck (.t 24)),
oF 26 25 1,
oL 27 26,
oM 28 0,
oI 29 27 28 7,
oF 30 29 6,
oL 31 30,
oB 32 .add 23 31,
oP 33 (.nilCheck (.t 20)),
oF 34 33 3,
oT 34 32 1])
def pd257 : ACode := (.seq
 (.ops [
oL 35 1,
oP 36 (.nilCheck (.t 35)),
oF 37 36 1,
oL 38 37,
oP 39 (.len (.t 38)),
oP 40 (.move (oK 0))])
 (.block 0
 (.loop
 (.seq
 (.ops [
oB 41 .lss 40 39])
 (.seq
 (.cond (.t 41)
 .skip
 (.exit 0))
 (.seq
 (.block 1
 (.seq
 (.ops [
oM 42 40,
oI 43 38 40 7,
oD 44 43 7,
⟨some 5, none, [], .alloc [.string ⟨⟨[]⟩⟩, .slice none 0 0, .int .i64 0, .int .i64 0, .bool false, .bool false, .int .i64 0]⟩,
oM 4 42,
oT 5 44 7])
 (.seq
 (.ops [
oF 45 5 1,
oL 46 45,
oM 47 0,
oA 48 169 [.t 46, .t 47] false])
 (.cond (.t 48)
 (.ops [
oL 49 2,
oM 50 4,
oP 51 (.call (.t 49) [.t 50] false)])
 .skip))))
 (.ops [
oC 52 .add 40 1,
oM 40 52])))))))
theorem eq257 : F257 = .fn 53 [] (.seq pa257 (.seq pb257 (.seq pc257 pd257))) := rfl
section
variable {g : Nat} {rd : Option Nat} {T : List Value} {D : List Nat} {A : Hp} {Q : Ex → St → Prop} {V : Value → Hp → Prop} {v : Value} {p : GP} {s : GS}
def undoF (X3 X7 : Nat) : Value := .func (.func 257) ⟨[]⟩ ⟨[.pointer (some ⟨X3, 0, none⟩), .pointer (some ⟨X7, 0, none⟩)]⟩
def UndoW (g : Nat) (p : GP) (X3 X7 i : Nat) : Prop :=
  ∀ (A : Hp) (s : GS) (V : Value → Hp → Prop), GateAt A p s → 0 ≤ s.logs → s.logs + usedL p.S s.d p.n ≤ 1000000 → A.get X3 = some (.cells [.pointer (some ⟨p.G, 0, none⟩)] false) → A.get X7 = some (.cells [undoF X3 X7] false) → g ≤ A.n →
    (∀ v A' d' lg', UndoR p.S p.n s.d d' i → lg' + usedL p.S d' p.n = s.logs + usedL p.S s.d p.n → s.logs ≤ lg' → GateAt A' p { s with d := d', logs := lg' } → Upd p A A' → V v A') → WF AP KL g 257 [.int .i64 i, .pointer (some ⟨X3, 0, none⟩), .pointer (some ⟨X7, 0, none⟩)] A V
theorem loop257 {X3 X7 i : Nat} {A0 : Hp} (hS : SOk p) (h3n : p.G < X3) (h7n : p.G < X7) (hin : i < p.n) (hg : g ≤ p.L) (ih : ∀ k, i < k → k < p.n → UndoW g p X3 X7 k) (s0 : GS) (h0 : 0 ≤ s0.logs) (hu : s0.logs + usedL p.S s0.d p.n ≤ 1000000) (h30 : A0.get X3 = some (.cells [.pointer (some ⟨p.G, 0, none⟩)] false)) (h70 : A0.get X7 = some (.cells [undoF X3 X7] false))
    (hQ : ∀ T' A' d' lg', UndoJ p.S s0.d d' i p.n p.n → lg' + usedL p.S d' p.n = s0.logs + usedL p.S s0.d p.n → s0.logs ≤ lg' → GateAt A' p { s0 with d := d', logs := lg' } → Upd p A0 A' → Q (.exit 0) ⟨T', D, A'⟩) :
    ∀ (r k : Nat) {T : List Value} {A : Hp} (d' : List Bool) (lg' : Int), k + r = p.n → UndoJ p.S s0.d d' i p.n k → lg' + usedL p.S d' p.n = s0.logs + usedL p.S s0.d p.n → s0.logs ≤ lg' → GateAt A p { s0 with d := d', logs := lg' } → Upd p A0 A →
      tget T 0 = .int .i64 i → tget T 1 = .pointer (some ⟨X3, 0, none⟩) → tget T 2 = .pointer (some ⟨X7, 0, none⟩) → tget T 38 = p.lv → tget T 39 = .int .i64 p.n → tget T 40 = .int .i64 k → W AP KL g rd (.loop body257) ⟨T, D, A⟩ Q := by
  have hpn := hS.n32
  intro r
  induction r with
  | zero =>
    intro k T A d' lg' hkr hJ hl hle hG hU t0 t1 t2 t38 t39 t40
    obtain ⟨n, hn⟩ : ∃ n, n = p.n := ⟨_, rfl⟩
    have hkn : k = n := by omega
    rw [← hn] at t39
    subst hkn
    rw [W_loop]
    simp (disch := as_aux_lemma => first | omega | simp only [hDs] <;> omega | simp [isCell]) [hRs, takeMarks, resA, resAll, resOne, Value.cells, body257, t39, t40]
    rw [hn] at hJ
    exact hQ _ _ d' lg' hJ hl hle hG hU
  | succ r ihr =>
    intro k T A d' lg' hkr hJ hl hle hG hU t0 t1 t2 t38 t39 t40
    obtain ⟨n, hn⟩ : ∃ n, n = p.n := ⟨_, rfl⟩
    have hkn : k < n := by omega
    have hlt := hG.lt
    have hst := hG.st.steps
    rw [← hn] at hst
    obtain ⟨x, c, ro, cells, hlv, hx, hcl, hat⟩ := hst.at (i := k) hkn
    obtain ⟨a, p1, p2, p3, p4, p5, p6, p7, p8, p9, ra⟩ := hat k hkn
    obtain ⟨pa, na, rfl⟩ := ra.isSlice
    have t39' := t39
    have t38' := t38
    rw [hlv] at t38'
    rw [← hn] at t39'
    have e3 := wrId (n := (k : Int) + 1) (by omega) (by omega)
    have h3A := (hU.2 X3 (Hp.lt_of_get h30) (by omega) (by omega) (by omega)).trans h30
    have h7A := (hU.2 X7 (Hp.lt_of_get h70) (by omega) (by omega) (by omega)).trans h70
    have hxn := Hp.lt_of_get hx
    have eP := Ext'.push A (.cells (stepC (.slice pa (p.S k).an na) (p.S k)) false)
    have ra' := eP.rdS ra
    have e4 : gi (p.S k).al 0 = gi (p.S k).al 0 := rfl
    simp only [stepC] at p1 eP ra'
    rw [W_loop]
    simp (disch := as_aux_lemma => first | omega | simp only [hDs] <;> omega | simp [isCell]) [hRs, takeMarks, resA, resAll, resOne, Value.cells, body257, t0, t38', t39', t40, show ((k : Int) < n) by omega, idxSA_ok, hx, p1, storeB_cells, setRange, set_push_eq]
    refine w169 (al := (p.S k).al) ra'.rdP (hS.an k (by omega)) ?_
    cases hd : dirB p.S k i with
    | false =>
      have hd' : decide ((i : Int) ∈ (p.S k).al.take (p.S k).an) = false := hd
      rw [hd']
      simp (disch := as_aux_lemma => first | omega | simp only [hDs] <;> omega | simp [isCell]) [hRs, takeMarks, resA, resAll, resOne, Value.cells, t40]
      exact ihr (k + 1) d' lg' (by omega) (hJ.skip hd) hl hle (hG.ext eP) (hU.trans (Upd.of eP)) (by simp [t0]) (by simp [t1]) (by simp [t2]) (by simp [t38]) (by simp [t39]) (by simp [e3])
    | true =>
      have hd' : decide ((i : Int) ∈ (p.S k).al.take (p.S k).an) = true := hd
      have hik : i < k := by
        have hm := List.mem_of_mem_take (of_decide_eq_true hd')
        have hlen := ra.1
        rw [ints_length] at hlen
        obtain ⟨q, hq, e⟩ := List.getElem_of_mem hm
        have := hS.aa k (by omega) q (by omega)
        rw [gi_eq hq, e] at this
        omega
      rw [hd']
      have hGP := hG.ext eP
      have h7P := eP.get h7A
      have h3P := eP.get h3A
      have h7P' := h7P
      unfold undoF at h7P'
      simp (disch := as_aux_lemma => first | omega | simp only [hDs] <;> omega | simp [isCell]) [hRs, takeMarks, resA, resAll, resOne, Value.cells, t2, h7P']
      refine ih k hik (by omega) _ { s0 with d := d', logs := lg' } _ hGP (by simp only; omega) (by simp only; omega) h3P h7P (by have := eP.1; omega) fun v A' d'' lg'' hR hlg hle' hG' hU' => ?_
      simp only at hR hlg hle' hG'
      simp (disch := as_aux_lemma => first | omega | simp only [hDs] <;> omega | simp [isCell]) [hRs, takeMarks, resA, resAll, resOne, Value.cells, t40]
      exact ihr (k + 1) d'' lg'' (by omega) (hJ.next hd hR) (by omega) (by omega) hG' ((hU.trans (Upd.of eP)).trans hU') (by simp [t0]) (by simp [t1]) (by simp [t2]) (by simp [t38]) (by simp [t39]) (by simp [e3])
end
end Go.Ab.Dike
namespace Go.Ab.Dike
open Go Go.Ab
section
variable {g : Nat} {rd : Option Nat} {T : List Value} {D : List Nat} {A : Hp} {Q : Ex → St → Prop} {V : Value → Hp → Prop} {v : Value} {p : GP} {s : GS}
theorem w257 {X3 X7 : Nat} (hS : SOk p) (h3n : p.G < X3) (h7n : p.G < X7) (hg : g ≤ p.L) : ∀ m i, p.n - i ≤ m → i < p.n → UndoW g p X3 X7 i := by
  intro m
  induction m with
  | zero => intro i h1 h2; omega
  | succ m ihm =>
    intro i him hin A s V hG h0 hu h3 h7 hgA hV
    rw [WF_body (show KL 257 = none from rfl) ((show AP 257 = some F257 from rfl).trans (congrArg some eq257))]
    have hpn := hS.n32
    have hlt := hG.lt
    obtain ⟨n, hn⟩ : ∃ n, n = p.n := ⟨_, rfl⟩
    have hdl := hG.dl
    rw [← hn] at hdl
    have hb := gb_at (l := s.d) (i := i) (by omega)
    have gg := hG.hg
    have gd := hG.hd
    have hst := hG.st.steps
    rw [← hn] at hst
    obtain ⟨x, c, ro, cells, hlv, hx, hcl, hat⟩ := hst.at (i := i) (by omega)
    obtain ⟨a, p1, p2, p3, p4, p5, p6, p7, p8, p9, ra⟩ := hat i (by omega)
    unfold gateC at gg
    rw [hlv, ← hn] at gg
    have hii : (i : Int) < n := by omega
    cases hd : gb s.d i with
    | false =>
      rw [hd] at hb
      simp (disch := as_aux_lemma => first | omega | simp only [hDs] <;> omega | simp [isCell]) [hRs, takeMarks, resA, resAll, resOne, Value.cells, pa257, h3, gg, gd, idxSA_ok, hii, hb]
      refine hV _ A s.d s.logs ⟨rfl, fun _ h => h, hd, fun k h1 h2 => ?_, fun a h1 h2 => ?_⟩ rfl (Int.le_refl _) ?_ (Upd.of (Ext'.refl _))
      · rw [h1] at h2; cases h2
      · rw [h1] at h2; cases h2
      · exact hG
    | true =>
      rw [hd] at hb
      have hlg := hS.lg i (by omega)
      have us := used_set (S := p.S) (d := s.d) (b := false) (i := i) (by omega) p.n
      rw [if_pos hin, hd] at us
      simp only [Bool.false_eq_true, if_false, if_true] at us
      have ub := used_bd (S := p.S) (d := s.d.set i false) (n := p.n) hS.lg
      have e3 := wrId (n := s.logs + (p.S i).logs) (by omega) (by omega)
      have st1 : storeB (some (.cells (bools s.d) false)) g A p.DB i [.bool false] 1 = some (undef, A.set p.DB (some (.cells (bools (s.d.set i false)) false))) := by
        have := storeB_cells (A := A) (g := g) (k := p.DB) (o := i) (size := 1) (cs := bools s.d) (vs := [.bool false]) rfl (by omega) (by rw [bools_len]; omega) rfl
        rwa [setRange_bools (by omega)] at this
      obtain ⟨A2, hA2⟩ : ∃ A2, A2 = A.set p.DB (some (.cells (bools (s.d.set i false)) false)) := ⟨_, rfl⟩
      rw [← hA2] at st1
      have hA2n : A2.n = A.n := by rw [hA2]; rfl
      have o2 : ∀ z, z ≠ p.DB → A2.get z = A.get z := fun z hz => by rw [hA2]; exact get_set_ne (Hp.lt_of_get gd) hz
      have h32 := (o2 X3 (by omega)).trans h3
      have gg2 := (o2 p.G (by omega)).trans gg
      have gd2 : A2.get p.DB = some (.cells (bools (s.d.set i false)) false) := by rw [hA2]; exact get_set_same gd
      have hxL : x ≠ p.DB := by
        intro h
        subst h
        rw [gd] at hx
        cases hx
        have h1 : (bools s.d)[i * 7]? = some (.string (p.S i).name) := p2
        simp [bools] at h1
      have hx2 := (o2 x hxL).trans hx
      simp (disch := as_aux_lemma => first | omega | simp only [hDs] <;> omega | simp [isCell]) [hRs, takeMarks, resA, resAll, resOne, Value.cells, pa257, pb257, pc257, h3, gg, gd, idxSA_ok, hii, hb, st1, h32, gg2, hx2, p9, e3, storeB_cells, setRange]
      obtain ⟨A3, hA3⟩ : ∃ A3, A3 = A2.set p.G (some (.cells (gateC p.lv p.DB p.n (s.logs + (p.S i).logs) s.ship p.M s.time) false)) := ⟨_, rfl⟩
      have hA3' : A2.set p.G (some (.cells [.bool true, .slice (some ⟨x, 0, some 7⟩) n c, .slice (some ⟨p.DB, 0, some 1⟩) n n, .int .i64 (s.logs + (p.S i).logs), .bool s.ship, .map (some p.M), .int .i64 s.time] false)) = A3 := by rw [hA3, gateC, hlv, ← hn]
      rw [hA3']
      have hA3n : A3.n = A2.n := by rw [hA3]; rfl
      have o3 : ∀ z, z ≠ p.G → A3.get z = A2.get z := fun z hz => by rw [hA3]; exact get_set_ne (by omega) hz
      have hG3 : GateAt A3 p { s with d := s.d.set i false, logs := s.logs + (p.S i).logs } := ⟨hG.st.keep fun z hz => by rw [o3 z (by omega), o2 z (by omega)], by rw [hA3]; exact get_set_same gg2, (o3 _ (by omega)).trans gd2, by rw [List.length_set]; exact hG.dl, by rw [o3 _ (by omega), o2 _ (by omega)]; exact hG.hm, hG.ord⟩
      have hU3 : Upd p A A3 := ⟨by omega, fun z hz a b _ => by rw [o3 z a, o2 z b]⟩
      have h33 := (o3 X3 (by omega)).trans h32
      have h73 := ((o3 X7 (by omega)).trans (o2 X7 (by omega))).trans h7
      have gg3 := hG3.hg
      unfold gateC at gg3
      rw [hlv, ← hn] at gg3
      simp only at gg3
      simp (disch := as_aux_lemma => first | omega | simp only [hDs] <;> omega | simp [isCell]) [hRs, takeMarks, resA, resAll, resOne, Value.cells, pd257, h33, gg3]
      refine loop257 (A0 := A3) (X3 := X3) (X7 := X7) (i := i) hS h3n h7n hin hg (fun k hik hk => ihm k (by omega) hk) { s with d := s.d.set i false, logs := s.logs + (p.S i).logs } (by simp only; omega) (by simp only; omega) h33 h73 ?_ p.n 0 (s.d.set i false) (s.logs + (p.S i).logs) (by omega) ⟨rfl, fun _ h => h, fun q h1 h2 => ?_, fun a h1 h2 => ?_, fun q hq => absurd hq (by omega)⟩ (by simp only) (Int.le_refl _) hG3 (Upd.of (Ext'.refl _)) (by simp) (by simp) (by simp) (by simp [hlv, ← hn]) (by simp [← hn]) (by simp)
      · intro T' A' d' lg' hJ hl hle hG' hU'
        simp only at hJ hl hle
        simp (disch := as_aux_lemma => first | omega | simp only [hDs] <;> omega | simp [isCell]) [hRs, takeMarks, resA, resAll, resOne, Value.cells]
        exact hV _ A' d' lg' (hJ.done (by omega) hd) (by omega) (by omega) hG' (hU3.trans hU')
      · rw [h1] at h2; cases h2
      · rw [h1] at h2; cases h2
def undoL (s : GS) (p : GP) (k : Int) (XA XB X3 X4 : Nat) : List Ck :=
  [⟨.func 201, ⟨[.pointer (some ⟨XA, 0, none⟩), .pointer (some ⟨XB, 0, none⟩)]⟩, 4, decide (0 ≤ k) && decide (k < p.n)⟩,
   ⟨.func 259, ⟨[.pointer (some ⟨X3, 0, none⟩), .pointer (some ⟨X4, 0, none⟩)]⟩, 6, gb s.d k.toNat⟩]
theorem undoL_cks {k : Int} {XA XB X3 X4 : Nat} (hG : GateAt A p s) (hS : SOk p) (hA : A.get XA = some (.cells [.int .i64 k] false)) (hB : A.get XB = some (.cells [.pointer (some ⟨p.G, 0, none⟩)] false)) (h3 : A.get X3 = some (.cells [.pointer (some ⟨p.G, 0, none⟩)] false)) (h4 : A.get X4 = some (.cells [.int .i64 k] false)) : Cks g A (undoL s p k XA XB X3 X4) := by
  have hdl := hG.dl
  refine Cks.cons (fun A1 V1 e1 h1 => ?_) fun hk => Cks.cons (fun A1 V1 e1 h1 => ?_) fun _ => Cks.nil
  · show WV AP KL g (.func (.func 201) ⟨[]⟩ ⟨[.pointer (some ⟨XA, 0, none⟩), .pointer (some ⟨XB, 0, none⟩)]⟩) [] A1 V1
    rw [WV_func]
    exact w201_ok (hG.ext e1) (e1.get hA) (e1.get hB) (h1 A1 (Ext'.refl _))
  · show WV AP KL g (.func (.func 259) ⟨[]⟩ ⟨[.pointer (some ⟨X3, 0, none⟩), .pointer (some ⟨X4, 0, none⟩)]⟩) [] A1 V1
    have hk' : 0 ≤ k ∧ k < p.n := by simpa using hk
    obtain ⟨j, rfl⟩ : ∃ j : Nat, k = (j : Int) := ⟨k.toNat, by omega⟩
    simp only [Int.toNat_natCast] at h1
    obtain ⟨n, hn⟩ : ∃ n, n = p.n := ⟨_, rfl⟩
    rw [← hn] at hk' hdl
    have hb := gb_at (l := s.d) (i := j) (by omega)
    rw [WV_func, WF_body (show KL 259 = none from rfl) (show AP 259 = some F259 from rfl)]
    have g3 := e1.get h3
    have g4 := e1.get h4
    have gg := (hG.ext e1).hg
    unfold gateC at gg
    rw [← hn] at gg
    simp (disch := as_aux_lemma => first | omega | simp only [hDs] <;> omega | simp [isCell]) [hRs, takeMarks, resA, resAll, resOne, Value.cells, F259, g3, g4, gg, (hG.ext e1).hd, idxSA_ok, hk'.2, hb]
    exact h1 A1 (Ext'.refl _)
theorem w234_ok {k t : Int} (hG : GateAt A p s) (hS : SOk p) (h0 : 0 ≤ s.logs) (hu : s.logs + usedL p.S s.d p.n ≤ 1000000) (hg : g ≤ p.L)
    (hbad : ∀ e A', e ≠ 0 → Ext' A A' → V (.int .i64 e) A')
    (hok : ∀ A' (j : Nat) d' lg', (0 ≤ t ∧ t ≤ 1000000000 ∧ s.time ≤ t) → k = j → j < p.n → gb s.d j = true → UndoR p.S p.n s.d d' j → lg' + usedL p.S d' p.n = s.logs + usedL p.S s.d p.n → s.logs ≤ lg' → Upd p A A' → GateAt A' p { s with d := d', logs := lg', es := [], time := t } → V (.int .i64 0) A') : WF AP KL g 234 [.pointer (some ⟨p.G, 0, none⟩), .int .i64 k, .int .i64 t] A V := by
  rw [WF_body (show KL 234 = none from rfl) (show AP 234 = some F234 from rfl)]
  have hlt := hG.lt
  obtain ⟨C, hC⟩ : ∃ C, C = ((A.push (.cells [.pointer (some ⟨p.G, 0, none⟩)] false)).push (.cells [.int .i64 k] false)).push (.cells [undoF A.n (A.n + 2)] false) := ⟨_, rfl⟩
  have hCn : C.n = A.n + 3 := by rw [hC]; rfl
  have eC : Ext' A C := by rw [hC]; exact ((Ext'.push A _).trans (Ext'.push _ _)).trans (Ext'.push _ _)
  have hX3 : C.get A.n = some (.cells [.pointer (some ⟨p.G, 0, none⟩)] false) := by rw [hC, get_push_old (by simp only [Hp.n_push]; omega), get_push_old (by simp), get_push_new]
  have hX4 : C.get (A.n + 1) = some (.cells [.int .i64 k] false) := by rw [hC, get_push_old (by simp), get_push_eq (by simp)]
  have hX7 : C.get (A.n + 2) = some (.cells [undoF A.n (A.n + 2)] false) := by rw [hC, get_push_eq (by simp)]
  have hC' := hC.symm
  unfold undoF at hC'
  simp (disch := as_aux_lemma => first | omega | simp only [hDs] <;> omega | simp [isCell]) [hRs, takeMarks, resA, resAll, resOne, Value.cells, F234, storeB_cells, setRange, set_push_eq, hC', hX3, hX4]
  refine w177_g (by omega) fun C1 ec hXB hXA => ?_
  have nc := ec.1
  obtain ⟨l, hl⟩ : ∃ l, l = undoL s p k (C.n + 1) C.n A.n (A.n + 1) := ⟨_, rfl⟩
  obtain ⟨B, hB⟩ : ∃ B, B = C1.push (.cells (ckC l) false) := ⟨_, rfl⟩
  have hBn : B.n = C1.n + 1 := by rw [hB]; rfl
  have e1B : Ext' C1 B := by rw [hB]; exact Ext'.push _ _
  have eB : Ext' A B := eC.trans (ec.trans e1B)
  have hY : B.get C1.n = some (.cells (ckC l) false) := by rw [hB, get_push_new]
  have hB' : C1.push (.cells [.func (.func 201) ⟨[]⟩ ⟨[.pointer (some ⟨C.n + 1, 0, none⟩), .pointer (some ⟨C.n, 0, none⟩)]⟩, .int .i64 4, .func (.func 259) ⟨[]⟩ ⟨[.pointer (some ⟨A.n, 0, none⟩), .pointer (some ⟨A.n + 1, 0, none⟩)]⟩, .int .i64 6] false) = B := by rw [hB, hl]; rfl
  have hGB := hG.ext eB
  have hll : l.length = 2 := by rw [hl]; rfl
  simp (disch := as_aux_lemma => first | omega | simp only [hDs] <;> omega | simp [isCell]) [hRs, takeMarks, resA, resAll, resOne, Value.cells, zer2, slitA, fillA, setRange, hB']
  have hX3B := (ec.trans e1B).get hX3
  have hX4B := (ec.trans e1B).get hX4
  have hX7B := (ec.trans e1B).get hX7
  have hc : Cks g B l := by rw [hl]; exact undoL_cks hGB hS (e1B.get hXA) (e1B.get hXB) hX3B hX4B
  have hle : ∀ c ∈ l, c.e ≠ 0 := by
    rw [hl]
    intro c hc
    simp only [undoL, List.mem_cons, List.not_mem_nil, or_false] at hc
    rcases hc with rfl | rfl
    · show (4 : Int) ≠ 0; decide
    · show (6 : Int) ≠ 0; decide
  have key := w175_ok (g := g) (Y := C1.n) (l := l) (t := t) (fn := .func 258) (cp := ⟨[.pointer (some ⟨A.n + 2, 0, none⟩), .pointer (some ⟨A.n + 1, 0, none⟩)]⟩) (A := B) (p := p) (s := s) (V := fun v A' => ∃ e : Int, v = .int .i64 e ∧ V (.int .i64 e) A') hGB hY hc (by omega) hle hg (fun h A' e => ⟨_, rfl, hbad _ A' h (eB.trans e)⟩) fun h A1 n1 o1 hG1 => ?_
  · rw [hll] at key
    refine WF_mono key fun v A' ⟨e, h1, h2⟩ => ?_
    subst h1
    simp (disch := as_aux_lemma => first | omega | simp only [hDs] <;> omega | simp [isCell]) [hRs, takeMarks, resA, resAll, resOne, Value.cells]
    exact h2
  · rw [WV_func, WF_body (show KL 258 = none from rfl) (show AP 258 = some F258 from rfl)]
    have g3 := (o1 A.n (by omega) (by omega)).trans hX3B
    have g4 := (o1 (A.n + 1) (by omega) (by omega)).trans hX4B
    have g7 := (o1 (A.n + 2) (by omega) (by omega)).trans hX7B
    obtain ⟨hz1, hz2⟩ := actE_zero hle h
    rw [hl] at hz2
    have b1 := hz2 _ (List.mem_cons_self ..)
    have b2 := hz2 _ (List.mem_cons_of_mem _ (List.mem_cons_self ..))
    have hk' : 0 ≤ k ∧ k < p.n := by simpa using b1
    obtain ⟨j, rfl⟩ : ∃ j : Nat, k = (j : Int) := ⟨k.toNat, by omega⟩
    simp only [Int.toNat_natCast] at b2
    have g7' := g7
    unfold undoF at g7'
    simp (disch := as_aux_lemma => first | omega | simp only [hDs] <;> omega | simp [isCell]) [hRs, takeMarks, resA, resAll, resOne, Value.cells, F258, g4, g7']
    refine w257 (X3 := A.n) (X7 := A.n + 2) hS (by omega) (by omega) hg p.n j (by omega) (by omega) A1 { s with time := t } _ hG1 h0 hu g3 g7 (by omega) fun v A' d' lg' hR hlg hle' hG' hU' => ?_
    simp only at hR hlg hle' hG'
    simp (disch := as_aux_lemma => first | omega | simp only [hDs] <;> omega | simp [isCell]) [hRs, takeMarks, resA, resAll, resOne, Value.cells]
    exact ⟨_, hG', hU', fun A3 h3 u3 => hok A3 j d' lg' hz1 rfl (by omega) b2 hR hlg hle' ((Upd.of eB).trans u3) h3⟩
end
end Go.Ab.Dike
namespace Go.Ab.Dike
open Go Go.Ab
section
variable {α : Type}
def fS (w : ByteArray) : List (ByteArray × α) → Option α
  | [] => none
  | e :: l => if strEq w e.1 then some e.2 else fS w l
def sS (w : ByteArray) (a : α) : List (ByteArray × α) → List (ByteArray × α)
  | [] => [(w, a)]
  | e :: l => if strEq w e.1 then (w, a) :: l else e :: sS w a l
theorem findM_fS {w : ByteArray} {enc : α → Value} : ∀ l : List (ByteArray × α), findM (.string w) (l.map fun e => (Value.string e.1, enc e.2)) = some ((fS w l).map enc)
  | [] => rfl
  | e :: l => by
    have ih := findM_fS (w := w) (enc := enc) l
    have hk : keyEq (.string w) (.string e.1) = some (strEq w e.1) := rfl
    rw [List.map_cons, findM, fS, hk]
    cases h : strEq w e.1 with
    | true => rfl
    | false => simp only [Bool.false_eq_true, if_false]; exact ih
theorem setM_sS {w : ByteArray} {enc : α → Value} {a : α} : ∀ l : List (ByteArray × α), setM (.string w) (enc a) (l.map fun e => (Value.string e.1, enc e.2)) = some ((sS w a l).map fun e => (Value.string e.1, enc e.2))
  | [] => rfl
  | e :: l => by
    have ih := setM_sS (w := w) (enc := enc) (a := a) l
    have hk : keyEq (.string w) (.string e.1) = some (strEq w e.1) := rfl
    rw [List.map_cons, setM, sS, hk]
    cases h : strEq w e.1 with
    | true => rfl
    | false => simp only [Bool.false_eq_true, if_false]; rw [ih]; rfl
theorem sS_map {β : Type} (f : α → β) {w : ByteArray} {a : α} : ∀ l : List (ByteArray × α), (sS w a l).map (fun e => (e.1, f e.2)) = sS w (f a) (l.map fun e => (e.1, f e.2))
  | [] => rfl
  | e :: l => by
    have ih := sS_map f (w := w) (a := a) l
    rw [List.map_cons, sS, sS]
    cases h : strEq w e.1 with
    | true => rfl
    | false => simp only [Bool.false_eq_true, if_false, List.map_cons]; rw [ih]
end
def encS (x : ByteArray × Bool) : Value := .agg ⟨[.string x.1, .bool x.2]⟩
theorem encE_eq (es : List Seen) : es.map encE = es.map fun e => (Value.string e.1, encS e.2) := rfl
def leftL (d : List Bool) : Nat → List Int
  | 0 => []
  | i + 1 => if gb d i then leftL d i else leftL d i ++ [(i : Int)]
theorem leftL_length (d : List Bool) : ∀ i, (leftL d i).length ≤ i
  | 0 => Nat.le_refl _
  | i + 1 => by
    have := leftL_length d i
    unfold leftL
    split
    · omega
    · rw [List.length_append, List.length_singleton]; omega
section
variable {g : Nat} {rd : Option Nat} {T : List Value} {D : List Nat} {A : Hp} {Q : Ex → St → Prop} {V : Value → Hp → Prop} {v : Value} {p : GP} {s : GS}
theorem lookup_sight {z : Value} {w : ByteArray} (hG : GateAt A p s) : lookupA A 1 z true (.map (some p.M)) (.string w) = some (.tuple ⟨[((fS w s.es).map encS).getD z, .bool ((fS w s.es).map encS).isSome]⟩) := by
  have hm := hG.hm
  rw [encE_eq] at hm
  simp only [lookupA, mapOf, hm, keyFits, findM_fS]
  rfl
def seeL (s : GS) (w c : ByteArray) (X5 X6 X7 : Nat) : List Ck :=
  [⟨.func 186, ⟨[.pointer (some ⟨X6, 0, none⟩), .pointer (some ⟨X7, 0, none⟩)]⟩, 10, nameB w && nameB c⟩,
   ⟨.func 187, ⟨[.pointer (some ⟨X5, 0, none⟩), .pointer (some ⟨X6, 0, none⟩), .pointer (some ⟨X7, 0, none⟩)]⟩, 2, match fS w s.es with | none => true | some x => strEq x.1 c⟩,
   ⟨.func 188, ⟨[.pointer (some ⟨X5, 0, none⟩), .pointer (some ⟨X6, 0, none⟩)]⟩, 9, (fS w s.es).isSome || decide (s.es.length < 64)⟩]
theorem seeL_cks {w c : ByteArray} {X5 X6 X7 : Nat} (hG : GateAt A p s) (hw : w.size < 1000000) (hc : c.size < 1000000) (h5 : A.get X5 = some (.cells [.pointer (some ⟨p.G, 0, none⟩)] false)) (h6 : A.get X6 = some (.cells [.string w] false)) (h7 : A.get X7 = some (.cells [.string c] false)) (hgn : g ≤ A.n) : Cks g A (seeL s w c X5 X6 X7) := by
  refine Cks.cons (fun A1 V1 e1 h1 => ?_) fun _ => Cks.cons (fun A1 V1 e1 h1 => ?_) fun _ => Cks.cons (fun A1 V1 e1 h1 => ?_) fun _ => Cks.nil
  · show WV AP KL g (.func (.func 186) ⟨[]⟩ ⟨[.pointer (some ⟨X6, 0, none⟩), .pointer (some ⟨X7, 0, none⟩)]⟩) [] A1 V1
    rw [WV_func, WF_body (show KL 186 = none from rfl) (show AP 186 = some F186 from rfl)]
    have g6 := e1.get h6
    have g7 := e1.get h7
    have n1 := e1.1
    simp only at h1
    simp (disch := as_aux_lemma => first | omega | simp only [hDs] <;> omega | simp [isCell]) [hRs, takeMarks, resA, resAll, resOne, Value.cells, F186, g6]
    refine w166 hw fun A2 e2 => ?_
    cases c1 : nameB w with
    | false =>
      rw [c1] at h1
      simp (disch := as_aux_lemma => first | omega | simp only [hDs] <;> omega | simp [isCell]) [hRs, takeMarks, resA, resAll, resOne, Value.cells]
      exact h1 A2 e2
    | true =>
      rw [c1, Bool.true_and] at h1
      have g72 := e2.get g7
      simp (disch := as_aux_lemma => first | omega | simp only [hDs] <;> omega | simp [isCell]) [hRs, takeMarks, resA, resAll, resOne, Value.cells, g72]
      refine w166 hc fun A3 e3 => ?_
      simp (disch := as_aux_lemma => first | omega | simp only [hDs] <;> omega | simp [isCell]) [hRs, takeMarks, resA, resAll, resOne, Value.cells]
      exact h1 A3 (e2.trans e3)
  · show WV AP KL g (.func (.func 187) ⟨[]⟩ ⟨[.pointer (some ⟨X5, 0, none⟩), .pointer (some ⟨X6, 0, none⟩), .pointer (some ⟨X7, 0, none⟩)]⟩) [] A1 V1
    rw [WV_func, WF_body (show KL 187 = none from rfl) (show AP 187 = some F187 from rfl)]
    have g5 := e1.get h5
    have g6 := e1.get h6
    have g7 := e1.get h7
    have n1 := e1.1
    have gg := (hG.ext e1).hg
    unfold gateC at gg
    have hl := lookup_sight (z := .agg ⟨[.string ⟨⟨[]⟩⟩, .bool false]⟩) (w := w) (hG.ext e1)
    simp only at h1
    cases hf : fS w s.es with
    | none =>
      rw [hf] at hl h1
      simp only [Option.map_none, Option.getD_none, Option.isSome_none] at hl
      simp (disch := as_aux_lemma => first | omega | simp only [hDs] <;> omega | simp [isCell]) [hRs, takeMarks, resA, resAll, resOne, Value.cells, F187, g5, g6, gg, hl, storeB_cells, setRange, set_push_eq]
      exact h1 _ (Ext'.push A1 _)
    | some x =>
      obtain ⟨xc, xb⟩ := x
      rw [hf] at hl h1
      simp only [Option.map_some, Option.getD_some, Option.isSome_some, encS] at hl
      have g7' := (Ext'.push A1 (.cells [.string xc, .bool xb] false)).get g7
      have hs : strOpA .eql (.string xc) (.string c) = some (.bool (strEq xc c)) := rfl
      simp (disch := as_aux_lemma => first | omega | simp only [hDs] <;> omega | simp [isCell]) [hRs, takeMarks, resA, resAll, resOne, Value.cells, F187, g5, g6, gg, hl, storeB_cells, setRange, set_push_eq, g7', hs]
      exact h1 _ (Ext'.push A1 _)
  · show WV AP KL g (.func (.func 188) ⟨[]⟩ ⟨[.pointer (some ⟨X5, 0, none⟩), .pointer (some ⟨X6, 0, none⟩)]⟩) [] A1 V1
    rw [WV_func, WF_body (show KL 188 = none from rfl) (show AP 188 = some F188 from rfl)]
    have g5 := e1.get h5
    have g6 := e1.get h6
    have n1 := e1.1
    have gg := (hG.ext e1).hg
    unfold gateC at gg
    have hl := lookup_sight (z := .agg ⟨[.string ⟨⟨[]⟩⟩, .bool false]⟩) (w := w) (hG.ext e1)
    simp only at h1
    cases hf : fS w s.es with
    | none =>
      rw [hf] at hl h1
      simp only [Option.map_none, Option.getD_none, Option.isSome_none] at hl
      simp only [Option.isSome_none, Bool.false_or] at h1
      have eP := Ext'.push A1 (.cells [.string ⟨⟨[]⟩⟩, .bool false] false)
      have g5' := eP.get g5
      have gg' := eP.get gg
      have hlen : lenMA (A1.push (.cells [.string ⟨⟨[]⟩⟩, .bool false] false)) (.map (some p.M)) = some (.int .i64 (s.es.length : Nat)) := by
        have := eP.get (hG.ext e1).hm
        simp only [lenMA, mapOf, this, Option.map_some, goInt, List.length_map]
      have hd : decide (s.es.length < 64) = decide ((s.es.length : Int) < 64) := by
        rw [decide_eq_decide]; omega
      rw [hd] at h1
      generalize (s.es.length : Int) = q at hlen h1
      simp (disch := as_aux_lemma => first | omega | simp only [hDs] <;> omega | simp [isCell]) [hRs, takeMarks, resA, resAll, resOne, Value.cells, F188, g5, g6, gg, hl, storeB_cells, setRange, set_push_eq, g5', gg', hlen]
      exact h1 _ eP
    | some x =>
      obtain ⟨xc, xb⟩ := x
      rw [hf] at hl h1
      simp only [Option.map_some, Option.getD_some, Option.isSome_some, encS] at hl
      simp (disch := as_aux_lemma => first | omega | simp only [hDs] <;> omega | simp [isCell]) [hRs, takeMarks, resA, resAll, resOne, Value.cells, F188, g5, g6, gg, hl, storeB_cells, setRange, set_push_eq]
      exact h1 _ (Ext'.push A1 _)
theorem w148_ok {w c : ByteArray} {b : Bool} {t : Int} (hG : GateAt A p s) (hw : w.size < 1000000) (hc : c.size < 1000000) (hg : g ≤ p.L)
    (hbad : ∀ e A', e ≠ 0 → Ext' A A' → V (.int .i64 e) A')
    (hok : ∀ A', (0 ≤ t ∧ t ≤ 1000000000 ∧ s.time ≤ t) → nameB w = true → nameB c = true → (∀ x, fS w s.es = some x → x.1 = c) → Upd p A A' → GateAt A' p { s with es := sS w (c, b) s.es, time := t } → V (.int .i64 0) A') : WF AP KL g 148 [.pointer (some ⟨p.G, 0, none⟩), .string w, .string c, .bool b, .int .i64 t] A V := by
  rw [WF_body (show KL 148 = none from rfl) (show AP 148 = some F148 from rfl)]
  have hlt := hG.lt
  obtain ⟨l, hl⟩ : ∃ l, l = seeL s w c A.n (A.n + 1) (A.n + 2) := ⟨_, rfl⟩
  obtain ⟨C, hC⟩ : ∃ C, C = (((A.push (.cells [.pointer (some ⟨p.G, 0, none⟩)] false)).push (.cells [.string w] false)).push (.cells [.string c] false)).push (.cells [.bool b] false) := ⟨_, rfl⟩
  have hCn : C.n = A.n + 4 := by rw [hC]; rfl
  have eC : Ext' A C := by rw [hC]; exact (((Ext'.push A _).trans (Ext'.push _ _)).trans (Ext'.push _ _)).trans (Ext'.push _ _)
  have hX5 : C.get A.n = some (.cells [.pointer (some ⟨p.G, 0, none⟩)] false) := by rw [hC, get_push_old (by simp only [Hp.n_push]; omega), get_push_old (by simp only [Hp.n_push]; omega), get_push_old (by simp), get_push_new]
  have hX6 : C.get (A.n + 1) = some (.cells [.string w] false) := by rw [hC, get_push_old (by simp only [Hp.n_push]; omega), get_push_old (by simp), get_push_eq (by simp)]
  have hX7 : C.get (A.n + 2) = some (.cells [.string c] false) := by rw [hC, get_push_old (by simp), get_push_eq (by simp)]
  have hX8 : C.get (A.n + 3) = some (.cells [.bool b] false) := by rw [hC, get_push_eq (by simp)]
  obtain ⟨B, hB⟩ : ∃ B, B = C.push (.cells (ckC l) false) := ⟨_, rfl⟩
  have hBn : B.n = A.n + 5 := by rw [hB]; simp only [Hp.n_push]; omega
  have eCB : Ext' C B := by rw [hB]; exact Ext'.push _ _
  have eB : Ext' A B := eC.trans eCB
  have hY : B.get C.n = some (.cells (ckC l) false) := by rw [hB, get_push_new]
  have hB' : C.push (.cells [.func (.func 186) ⟨[]⟩ ⟨[.pointer (some ⟨A.n + 1, 0, none⟩), .pointer (some ⟨A.n + 2, 0, none⟩)]⟩, .int .i64 10, .func (.func 187) ⟨[]⟩ ⟨[.pointer (some ⟨A.n, 0, none⟩), .pointer (some ⟨A.n + 1, 0, none⟩), .pointer (some ⟨A.n + 2, 0, none⟩)]⟩, .int .i64 2, .func (.func 188) ⟨[]⟩ ⟨[.pointer (some ⟨A.n, 0, none⟩), .pointer (some ⟨A.n + 1, 0, none⟩)]⟩, .int .i64 9] false) = B := by rw [hB, hl]; rfl
  have hGB := hG.ext eB
  have hll : l.length = 3 := by rw [hl]; rfl
  simp (disch := as_aux_lemma => first | omega | simp only [hDs] <;> omega | simp [isCell]) [hRs, takeMarks, resA, resAll, resOne, Value.cells, F148, ← hC, hX5, zer3, slitA, fillA, setRange, hB']
  have g5 := eCB.get hX5
  have g6 := eCB.get hX6
  have g7 := eCB.get hX7
  have g8 := eCB.get hX8
  have hck : Cks g B l := by rw [hl]; exact seeL_cks hGB hw hc g5 g6 g7 (by omega)
  have hle : ∀ c ∈ l, c.e ≠ 0 := by
    rw [hl]
    intro c hc
    simp only [seeL, List.mem_cons, List.not_mem_nil, or_false] at hc
    rcases hc with rfl | rfl | rfl
    · show (10 : Int) ≠ 0; decide
    · show (2 : Int) ≠ 0; decide
    · show (9 : Int) ≠ 0; decide
  have gg := hGB.hg
  unfold gateC at gg
  have key := w184_ok (g := g) (G := p.G) (Y := C.n) (l := l) (t := t) (f := .func (.func 185) ⟨[]⟩ ⟨[.pointer (some ⟨A.n + 2, 0, none⟩), .pointer (some ⟨A.n + 3, 0, none⟩), .pointer (some ⟨A.n, 0, none⟩), .pointer (some ⟨A.n + 1, 0, none⟩)]⟩) (A := B) (V := fun v A' => ∃ e : Int, v = .int .i64 e ∧ V (.int .i64 e) A') gg hY hck (by omega) hle (by omega) (fun h A' e => ⟨_, rfl, hbad _ A' h (eB.trans e)⟩) fun h A1 e1 => ?_
  · rw [hll] at key
    refine WF_mono key fun v A' ⟨e, h1, h2⟩ => ?_
    subst h1
    simp (disch := as_aux_lemma => first | omega | simp only [hDs] <;> omega | simp [isCell]) [hRs, takeMarks, resA, resAll, resOne, Value.cells]
    exact h2
  · have n1 := e1.1
    obtain ⟨A2, hA2⟩ : ∃ A2, A2 = A1.set p.G (some (.cells (gateC p.lv p.DB p.n s.logs s.ship p.M t) false)) := ⟨_, rfl⟩
    have hA2' : A1.set p.G (some (.cells [.bool true, p.lv, .slice (some ⟨p.DB, 0, some 1⟩) p.n p.n, .int .i64 s.logs, .bool s.ship, .map (some p.M), .int .i64 t] false)) = A2 := hA2.symm
    rw [hA2']
    have hG1 := hGB.ext e1
    have hA2n : A2.n = A1.n := by rw [hA2]; rfl
    have o2 : ∀ z, z ≠ p.G → A2.get z = A1.get z := fun z hz => by rw [hA2]; exact get_set_ne (by omega) hz
    have hG2 : GateAt A2 p { s with time := t } := ⟨hG1.st.keep fun z hz => o2 z (by omega), by rw [hA2]; exact get_set_same hG1.hg, (o2 _ (by omega)).trans hG1.hd, hG1.dl, (o2 _ (by omega)).trans hG1.hm, hG1.ord⟩
    have k5 := (o2 _ (by omega)).trans (e1.get g5)
    have k6 := (o2 _ (by omega)).trans (e1.get g6)
    have k7 := (o2 _ (by omega)).trans (e1.get g7)
    have k8 := (o2 _ (by omega)).trans (e1.get g8)
    have gg2 := hG2.hg
    have gm2 := hG2.hm
    unfold gateC at gg2
    simp only at gm2 gg2
    obtain ⟨hz1, hz2⟩ := actE_zero hle h
    rw [hl] at hz2
    have b1 := hz2 _ (List.mem_cons_self ..)
    have b2 := hz2 _ (List.mem_cons_of_mem _ (List.mem_cons_self ..))
    have b1' : nameB w = true ∧ nameB c = true := by simpa using b1
    have hset : mapSetA g A2 1 (.map (some p.M)) (.string w) (.agg ⟨[.string c, .bool b]⟩) = some (A2.set p.M (some (.map ((sS w (c, b) s.es).map encE) none))) := by
      have hs := setM_sS (w := w) (enc := encS) (a := (c, b)) s.es
      rw [← encE_eq] at hs
      simp only [mapSetA, gm2]
      rw [if_pos ⟨by omega, rfl⟩, show (Value.agg ⟨[.string c, .bool b]⟩) = encS (c, b) from rfl, hs]
      rfl
    rw [WV_func, WF_body (show KL 185 = none from rfl) (show AP 185 = some F185 from rfl)]
    simp (disch := as_aux_lemma => first | omega | simp only [hDs] <;> omega | simp [isCell]) [hRs, takeMarks, resA, resAll, resOne, Value.cells, F185, k5, k6, k7, k8, gg2, fillA, setRange, hset, storeV]
    have hne : ∀ (b' : Option ABlk) z, z ≠ p.M → (A2.set p.M b').get z = A2.get z := fun b' z hz => get_set_ne (by omega) hz
    refine hok _ hz1 b1'.1 b1'.2 (fun x hx => ?_) ⟨by simp; omega, fun z hz a b' c' => ?_⟩ ⟨hG2.st.keep fun z hz => hne _ z (by omega), (hne _ _ (by omega)).trans hG2.hg, (hne _ _ (by omega)).trans hG2.hd, hG2.dl, get_set_same gm2, hG2.ord⟩
    · rw [hx] at b2
      exact strEq_iff.1 b2
    · rw [hne _ z c', o2 z a, e1.2 z (by omega), eB.2 z hz]
theorem loop235 {A0 : Hp} (hG : GateAt A0 p s) (hn : p.n ≤ 1000) (hg : g ≤ A0.n) (hQ : ∀ T' A' sv, tget T' 4 = sv → tget T' 0 = .pointer (some ⟨p.G, 0, none⟩) → AccS A0.n A' 1 (ints (leftL s.d p.n)) sv → Ext' A0 A' → Q (.exit 0) ⟨T', D, A'⟩) :
    ∀ (r i : Nat) {T : List Value} {A : Hp} {sv : Value}, i + r = p.n → tget T 0 = .pointer (some ⟨p.G, 0, none⟩) → tget T 4 = sv → tget T 13 = .slice (some ⟨p.DB, 0, some 1⟩) p.n p.n → tget T 14 = .int .i64 p.n → tget T 15 = .int .i64 i → AccS A0.n A 1 (ints (leftL s.d i)) sv → Ext' A0 A → W AP KL g rd (.loop body235) ⟨T, D, A⟩ Q := by
  have hdl := hG.dl
  obtain ⟨n, hnn⟩ : ∃ n, n = p.n := ⟨_, rfl⟩
  rw [← hnn] at hn hQ hdl ⊢
  intro r
  induction r with
  | zero =>
    intro i T A sv hir t0 t4 t13 t14 t15 hacc he
    have : i = n := by omega
    subst this
    rw [W_loop]
    simp (disch := as_aux_lemma => first | omega | simp only [hDs] <;> omega | simp [isCell]) [hRs, takeMarks, resA, resAll, resOne, Value.cells, body235, t14, t15]
    exact hQ _ _ sv (by simp [t4]) (by simp [t0]) hacc he
  | succ r ih =>
    intro i T A sv hir t0 t4 t13 t14 t15 hacc he
    have hb := gb_at (l := s.d) (i := i) (by omega)
    have hd := he.get hG.hd
    have e3 := wrId (n := (i : Int) + 1) (by omega) (by omega)
    have hA0 := he.1
    rw [W_loop]
    cases c1 : gb s.d i with
    | true =>
      rw [c1] at hb
      simp (disch := as_aux_lemma => first | omega | simp only [hDs] <;> omega | simp [isCell]) [hRs, takeMarks, resA, resAll, resOne, Value.cells, body235, t13, t14, t15, show ((i : Int) < n) by omega, idxSA_ok, hd, hb]
      exact ih (i + 1) (sv := sv) (by omega) (by simp [t0]) (by simp [t4]) (by simp [t13]) (by simp [t14]) (by simp [e3, t15]) (by rw [leftL, c1, if_pos rfl]; exact hacc) he
    | false =>
      rw [c1] at hb
      obtain ⟨sv', A2, ha, hacc', hk2, hn2, hbl⟩ := add_keep (g := g) (bytes := 8) (n := (leftL s.d i).length) (ro := false) (new := [.int .i64 (i : Int)]) hacc hg hA0 rfl (by decide) rfl (by simp) (by have := leftL_length s.d i; unfold room; omega)
      simp (disch := as_aux_lemma => first | omega | simp only [hDs] <;> omega | simp [isCell]) [hRs, takeMarks, resA, resAll, resOne, Value.cells, body235, t4, t13, t14, t15, show ((i : Int) < n) by omega, idxSA_ok, hd, hb, slitA, fillA, setRange, ha]
      refine ih (i + 1) (sv := sv') (by omega) (by simp [t0]) (by simp) (by simp [t13]) (by simp [t14]) (by simp [e3, t15]) (by rw [leftL, c1, if_neg (by decide), ints_append]; exact hacc') ⟨by omega, fun z hz => ?_⟩
      rw [hk2 z (by omega) (fun h => by have := (hacc.blk_ge h).1; omega), he.2 z hz]
theorem w235_ok (hG : GateAt A p s) (hn : p.n ≤ 1000) (hg : g ≤ A.n) (hV : ∀ A' sv, AccS A.n A' 1 (ints (leftL s.d p.n)) sv → Ext' A A' → V (.tuple ⟨[sv, .int .i64 s.logs]⟩) A') : WF AP KL g 235 [.pointer (some ⟨p.G, 0, none⟩)] A V := by
  rw [WF_body (show KL 235 = none from rfl) (show AP 235 = some F235 from rfl)]
  have w189 : ∀ {V' : Value → Hp → Prop}, V' (.bool true) A → WF AP KL g 189 [.pointer (some ⟨p.G, 0, none⟩)] A V' := by
    intro V' h'
    have gg := hG.hg
    unfold gateC at gg
    rw [WF_body (show KL 189 = none from rfl) (show AP 189 = some F189 from rfl)]
    simp (disch := as_aux_lemma => first | omega | simp only [hDs] <;> omega | simp [isCell]) [hRs, takeMarks, resA, resAll, resOne, Value.cells, F189, eqNilA, isNil, gg]
    exact h'
  have gg := hG.hg
  unfold gateC at gg
  simp (disch := as_aux_lemma => first | omega | simp only [hDs] <;> omega | simp [isCell]) [hRs, takeMarks, resA, resAll, resOne, Value.cells, F235]
  refine w189 ?_
  simp (disch := as_aux_lemma => first | omega | simp only [hDs] <;> omega | simp [isCell]) [hRs, takeMarks, resA, resAll, resOne, Value.cells, gg]
  refine loop235 hG hn hg ?_ p.n 0 (sv := .slice none 0 0) (by omega) (by simp) (by simp) (by simp) (by simp) (by simp) AccS.nil (Ext'.refl _)
  intro T' A' sv t4 t0 hacc he
  have g2 := he.get gg
  simp (disch := as_aux_lemma => first | omega | simp only [hDs] <;> omega | simp [isCell]) [hRs, takeMarks, resA, resAll, resOne, Value.cells, t4, t0, g2]
  exact hV A' sv hacc he
end
end Go.Ab.Dike
