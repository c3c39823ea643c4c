/- The chapter's examples: the calls that they make, once each. -/
import Derived.Test.YtmmpjfknmdlpoaaZ09
import Derived.Test.YtmmpjfknmdlpoaaZ07
set_option linter.unusedSimpArgs false
set_option linter.unusedVariables false
set_option linter.unusedSectionVars false
namespace Go.Ab
def EndQ (l : Nat) (T : List Value) (D : List Nat) (Q : Ex → St → Prop) (_ : Value) (A3 : Hp) : Prop :=
  match A3.get l with
  | some (.loop r) => match r.state with
    | .busy => False
    | _ => match r.pending with
      | none => Q .normal ⟨T, D, A3.set l (some (.loop { r with state := .exhausted }))⟩
      | some none => Q .ret ⟨T, D, A3.set l (some (.loop { r with state := .exhausted }))⟩
      | some (some id) => Q (.exit id) ⟨T, D, A3.set l (some (.loop { r with state := .exhausted }))⟩
  | _ => False
def recL (T : List Value) (ps : List Nat) (asg body : ACode) : ABlk := .loop { state := .ready, pending := none, tmps := T, params := ps, assign := asg, body := body }
section
variable {AP : Nat → Option AFunc} {K : Nat → Option Spec} {g : Nat} {T : List Value} {D : List Nat} {A : Hp} {Q : Ex → St → Prop} {V : Value → Hp → Prop}
theorem endLoop_of {l : Nat} {v : Value} {A3 : Hp} (h : EndQ l T D Q v A3) : ∃ ex st', endLoopA l T D (some (v, A3)) = some (ex, st') ∧ Q ex st' := by
  unfold EndQ at h
  unfold endLoopA
  split at h
  · rename_i r hr
    simp only [hr]
    split at h
    · cases h
    · rename_i hs
      split at h
      · rename_i hp
        refine ⟨_, _, ?_, h⟩
        simp [hp]
      · rename_i hp
        refine ⟨_, _, ?_, h⟩
        simp [hp]
      · rename_i id hp
        refine ⟨_, _, ?_, h⟩
        simp [hp]
  · cases h
theorem W_range {f : Opd} {ps : List Nat} {asg body : ACode} {h : Nat} {first captured : List Value} (hf : ev T f = .func (.func h) ⟨first⟩ ⟨captured⟩)
    (hw : WF AP K g h (first ++ [.func (.yield (A.n + 1)) #[] #[]] ++ captured) ((A.push .marks).push (recL T ps asg body)) (EndQ (A.n + 1) T (A.n :: D) Q)) :
    W AP K g none (.rangeF f ps asg body) ⟨T, D, A⟩ Q := by
  obtain ⟨m, d, v, A3, hr, hq⟩ := hw
  obtain ⟨ex, st', he, hQ⟩ := endLoop_of hq
  refine ⟨m, d + 1, ex, st', ?_, hQ⟩
  change rangeA (callF AP K (exec AP K m d)) ps asg body g none ⟨T, D, A⟩ (ev T f) = _
  rw [hf]
  simp only [rangeA]
  rw [← he]
  exact congrArg _ hr
def RoundQ (l : Nat) (r : ALoop) (V : Value → Hp → Prop) (ex : Ex) (st : St) : Prop :=
  ex = .normal ∧ (∃ r2, st.A.get l = some (.loop r2) ∧ r2 = { r with state := .busy }) ∧ V (.bool true) (st.A.set l (some (.loop r)))
theorem WV_yield {l p t : Nat} {v : Value} {body : ACode} {T0 : List Value} (hl : A.get l = some (recL T0 [p] (.ops [⟨some t, none, [], .move (.t p)⟩]) body)) (hg : g ≤ l)
    (hw : W AP K g (some l) body ⟨tset (tset T0 p v) t v, [], A.set l (some (.loop { state := .busy, pending := none, tmps := T0, params := [p], assign := .ops [⟨some t, none, [], .move (.t p)⟩], body := body }))⟩
      (RoundQ l { state := .ready, pending := none, tmps := T0, params := [p], assign := .ops [⟨some t, none, [], .move (.t p)⟩], body := body } V)) :
    WV AP K g (.func (.yield l) #[] #[]) [v] A V := by
  obtain ⟨m, d, ex, st2, hr, hex, ⟨r2, hr2, hre⟩, hV⟩ := hw
  subst hex
  subst hre
  refine ⟨m, d + 1, .bool true, _, ?_, hV⟩
  have hasg : exec AP K m (d + 1) (.ops [⟨some t, none, [], .move (.t p)⟩]) g (some l) ⟨tset T0 p v, [], A⟩ = some (.normal, ⟨tset (tset T0 p v) t v, [], A⟩) := by
    change (opsA (callV AP K (exec AP K m d)) g [⟨some t, none, [], .move (.t p)⟩] (tset T0 p v) A).map _ = _
    simp [opsA_cons, operA_plain, thenPut_some, opA, ev_t, putA_some]
  have hbody := exec_mono (AP := AP) (K := K) (Nat.le_refl m) (Nat.le_succ d) body g (some l) _ _ hr
  show yieldA (exec AP K m (d + 1)) g l [v] A = _
  unfold yieldA
  rw [hl]
  simp only [recL, List.length_singleton, zipArgs, hg, and_self, if_true]
  rw [hasg]
  simp only [beginRoundA, hl, recL]
  rw [hbody]
  simp only [endRoundA, hr2, Ex.pend, Option.isNone_none, if_true]
def Keep (P : Nat → Prop) (A A' : Hp) : Prop := A.n ≤ A'.n ∧ ∀ x, x < A.n → ¬ P x → A'.get x = A.get x
theorem Keep.refl (P : Nat → Prop) (A : Hp) : Keep P A A := ⟨Nat.le_refl _, fun _ _ _ => rfl⟩
theorem Keep.trans {P : Nat → Prop} {A B C : Hp} (h : Keep P A B) (h' : Keep P B C) : Keep P A C := ⟨Nat.le_trans h.1 h'.1, fun x hx hp => by rw [h'.2 x (Nat.lt_of_lt_of_le hx h.1) hp, h.2 x hx hp]⟩
theorem Keep.push (P : Nat → Prop) (A : Hp) (b : ABlk) : Keep P A (A.push b) := ⟨Nat.le_succ _, fun x hx _ => get_push_old hx⟩
theorem Keep.mono {P P' : Nat → Prop} {A B : Hp} (h : Keep P A B) (hp : ∀ x, P x → P' x) : Keep P' A B := ⟨h.1, fun x hx hn => h.2 x hx fun hP => hn (hp x hP)⟩
def Ext' (A A' : Hp) : Prop := A.n ≤ A'.n ∧ ∀ x, x < A.n → A'.get x = A.get x
theorem Ext'.refl (A : Hp) : Ext' A A := ⟨Nat.le_refl _, fun _ _ => rfl⟩
theorem Ext'.trans {A B C : Hp} (h : Ext' A B) (h' : Ext' B C) : Ext' A C := ⟨Nat.le_trans h.1 h'.1, fun x hx => by rw [h'.2 x (Nat.lt_of_lt_of_le hx h.1), h.2 x hx]⟩
theorem Ext'.push (A : Hp) (b : ABlk) : Ext' A (A.push b) := ⟨Nat.le_succ _, fun x hx => get_push_old hx⟩
theorem Ext'.get {A A' : Hp} (h : Ext' A A') {x : Nat} {b : ABlk} (hx : A.get x = some b) : A'.get x = some b := by rw [h.2 x (Hp.lt_of_get hx)]; exact hx
theorem Ext'.keep {A A' : Hp} (h : Ext' A A') (P : Nat → Prop) : Keep P A A' := ⟨h.1, fun x hx _ => h.2 x hx⟩
def pushL (A : Hp) : List ABlk → Hp
  | [] => A
  | b :: bs => pushL (A.push b) bs
theorem pushL_n : ∀ (bs : List ABlk) (A : Hp), (pushL A bs).n = A.n + bs.length
  | [], _ => rfl
  | b :: bs, A => by simp only [pushL]; rw [pushL_n bs, List.length_cons]; simp; omega
theorem pushL_old : ∀ (bs : List ABlk) {A : Hp} {x : Nat}, x < A.n → (pushL A bs).get x = A.get x
  | [], _, _, _ => rfl
  | b :: bs, A, x, h => by simp only [pushL]; rw [pushL_old bs (by simp; omega), get_push_old h]
theorem pushL_get : ∀ (bs : List ABlk) {A : Hp} (i : Nat) {b : ABlk}, bs[i]? = some b → (pushL A bs).get (A.n + i) = some b
  | [], _, _, _, h => by simp at h
  | c :: bs, A, 0, b, h => by
    simp at h; subst h
    simp only [pushL]
    rw [pushL_old bs (by simp), Nat.add_zero, get_push_new]
  | c :: bs, A, i + 1, b, h => by
    simp only [pushL]
    have := pushL_get bs (A := A.push c) i (b := b) (by simpa using h)
    rw [Hp.n_push] at this
    rw [show A.n + (i + 1) = A.n + 1 + i by omega]; exact this
end
end Go.Ab
namespace Go.Ab.Wave
open Go Go.Ab
def Kn : Nat → Option Spec := fun f => match f with
  | 37 => some S37
  | _ => none
theorem Kn_ok : SpecsOk E Kn := by
  intro h S hS
  unfold Kn at hS
  split at hS
  · cases hS; exact ⟨isFn' 37 _ _ _ rfl, S37_ok⟩
  · cases hS
def body113 : ACode := .block 1 (.ops [
oL 8 2,
oM 9 5,
oP 10 (.slit 1 1 [.int .i64 0] [(0, .t 9)]),
oP 11 (.append (.t 8) (.t 10) 1 8),
oT 2 11 1])
def nbD (w h c : Int) (d : Int × Int) : List Int :=
  if (0 ≤ c.tmod w + d.1 ∧ c.tmod w + d.1 ≤ w - 1) ∧ (0 ≤ c.tdiv w + d.2 ∧ c.tdiv w + d.2 ≤ h - 1) then [(c.tdiv w + d.2) * w + (c.tmod w + d.1)] else []
def dirs : List (Int × Int) := [(1, 0), (0, 1), (-1, 0), (0, -1)]
def nbrs (w h c : Int) : List Int := dirs.flatMap (nbD w h c)
def nbI (w h c : Int) (i : Nat) : List Int := (dirs.take i).flatMap (nbD w h c)
def dirI : List Int := [1, 0, 0, 1, -1, 0, 0, -1]
section
variable {K : Nat → Option Spec} {g : Nat} {A : Hp} {V : Value → Hp → Prop}
theorem w55 {n lo hi : Int} (hK : K 55 = none) : WF AP K g 55 [.int .i64 n, .int .i64 lo, .int .i64 hi] A V ↔ V (.bool (decide (lo ≤ n) && decide (n ≤ hi))) A := by
  rw [WF_body hK (show AP 55 = some F55 from rfl)]
  by_cases h : lo ≤ n <;> simp (disch := as_aux_lemma => first | omega | simp only [hDs] <;> omega | simp [isCell]) [hRs, takeMarks, resA, resAll, resOne, Value.cells, h]
theorem y113 {X L N : Nat} {T0 : List Value} {sv : Value} {done : List Int} {d : Int} (hX : A.get X = some (.cells [sv] false)) (hL : A.get L = some (recL T0 [7] (.ops [oM 5 7]) body113)) (hXL : X ≠ L) (hacc : AccS N A 1 (ints done) sv)
    (h2 : tget T0 2 = .pointer (some ⟨X, 0, none⟩)) (hg : g ≤ X) (hgL : g ≤ L) (hgN : g ≤ N) (hN : N ≤ A.n) (hXN : X < N) (hLN : L < N) (hlen : done.length < 1000)
    (hQ : ∀ sv' A', A'.get X = some (.cells [sv'] false) → A'.get L = some (recL T0 [7] (.ops [oM 5 7]) body113) → AccS N A' 1 (ints (done ++ [d])) sv' → A.n ≤ A'.n → (∀ x, x < N → x ≠ X → x ≠ L → A'.get x = A.get x) → V (.bool true) A') :
    WV AP K g (.func (.yield L) #[] #[]) [.int .i64 d] A V := by
  refine WV_yield hL hgL ?_
  have hLn := Hp.lt_of_get hL
  have hXn := Hp.lt_of_get hX
  obtain ⟨B, hB⟩ : ∃ B, B = A.set L (some (.loop { state := .busy, pending := none, tmps := T0, params := [7], assign := .ops [oM 5 7], body := body113 })) := ⟨_, rfl⟩
  rw [← hB]
  have hBn : B.n = A.n := by rw [hB]; rfl
  have hBX : B.get X = some (.cells [sv] false) := by rw [hB, get_set_ne hLn hXL]; exact hX
  have hBL : B.get L = some (.loop { state := .busy, pending := none, tmps := T0, params := [7], assign := .ops [oM 5 7], body := body113 }) := by rw [hB, get_set_same hL]
  have hBo : ∀ x, x ≠ L → B.get x = A.get x := fun x hx => by rw [hB, get_set_ne hLn hx]
  have haccB : AccS N B 1 (ints done) sv := by
    rcases hacc with h | ⟨b, k, h1, h3, h4, h5, h6⟩
    · exact .inl h
    · exact .inr ⟨b, k, h1, by rw [hBo b (by omega)]; exact h3, h4, h5, h6⟩
  obtain ⟨sv', A', e, hacc', hold, hn⟩ := haccB.add (g := g) (bytes := 8) (new := [.int .i64 d]) (ro := false) (n := done.length) hgN (by omega) rfl (by decide) rfl (by simp) (by unfold room; omega)
  have hX' : A'.get X = some (.cells [sv] false) := (hold X hXN).trans hBX
  have hL' := (hold L hLN).trans hBL
  have hXn' := Hp.lt_of_get hX'
  obtain ⟨p, n1, c1, rfl⟩ := hacc'.isSlice
  simp (disch := as_aux_lemma => first | omega | simp only [hDs] <;> omega | simp [isCell]) [hRs, takeMarks, resA, resAll, resOne, Value.cells, body113, h2, hBX, slitA, fillA, setRange, e, hX', storeB_cells, RoundQ]
  have q1 : ∀ x, x ≠ X → (A'.set X (some (.cells [.slice p n1 c1] false))).get x = A'.get x := fun x hx => get_set_ne hXn' hx
  have q2 : (A'.set X (some (.cells [.slice p n1 c1] false))).get L = _ := (q1 L (Ne.symm hXL)).trans hL'
  refine ⟨q2, ?_⟩
  have q3 : ∀ x b, x ≠ L → ((A'.set X (some (.cells [.slice p n1 c1] false))).set L b).get x = (A'.set X (some (.cells [.slice p n1 c1] false))).get x := fun x b hx => get_set_ne (Hp.lt_of_get q2) hx
  refine hQ (.slice p n1 c1) _ ?_ ?_ ?_ ?_ ?_
  · rw [q3 X _ hXL, get_set_same hX']
  · rw [get_set_same q2]; rfl
  · rw [ints_append]
    rcases hacc' with h | ⟨b, k, k1, k3, k4, k5, k6⟩
    · exact .inl h
    · exact .inr ⟨b, k, k1, by rw [q3 b _ (by omega), q1 b (by omega)]; exact k3, k4, k5, k6⟩
  · simp only [Hp.n_set]; omega
  · intro x hx hxX hxL
    rw [q3 x _ hxL, q1 x hxX, hold x hx, hBo x hxL]
end
end Go.Ab.Wave
namespace Go.Ab.Wave
open Go Go.Ab
theorem nbI_succ {w h c : Int} {i : Nat} (hi : i < 4) : nbI w h c (i + 1) = nbI w h c i ++ nbD w h c (gi dirI (i * 2), gi dirI (i * 2 + 1)) := by
  have : i = 0 ∨ i = 1 ∨ i = 2 ∨ i = 3 := by omega
  rcases this with rfl | rfl | rfl | rfl <;> simp [nbI, dirs, gi, dirI]
theorem nbI_four {w h c : Int} : nbI w h c 4 = nbrs w h c := rfl
theorem nbI_len {w h c : Int} : ∀ i, i ≤ 4 → (nbI w h c i).length ≤ i
  | 0, _ => by simp [nbI]
  | i + 1, hi => by
    rw [nbI_succ (by omega), List.length_append]
    have := nbI_len (w := w) (h := h) (c := c) i (by omega)
    unfold nbD
    split <;> simp <;> omega
theorem dir_small {i : Nat} (hi : i < 4) : (-1 ≤ gi dirI (i * 2) ∧ gi dirI (i * 2) ≤ 1) ∧ (-1 ≤ gi dirI (i * 2 + 1) ∧ gi dirI (i * 2 + 1) ≤ 1) := by
  have : i = 0 ∨ i = 1 ∨ i = 2 ∨ i = 3 := by omega
  rcases this with rfl | rfl | rfl | rfl <;> decide
section
variable {K : Nat → Option Spec} {g : Nat} {Q : Ex → St → Prop} {rd : Option Nat} {D : List Nat}
theorem loop114 {A0 : Hp} {X L G R : Nat} {T0 : List Value} {w h c s : Int} {sl : Value} (hK : K 55 = none) (hw : 1 ≤ w ∧ w ≤ 24) (hh : 1 ≤ h ∧ h ≤ 24) (hcx : 0 ≤ c.tmod w ∧ c.tmod w < w) (hcy : 0 ≤ c.tdiv w ∧ c.tdiv w < h)
    (hG : A0.get G = some (.cells [.int .i64 w, .int .i64 h, .int .i64 s, sl] false)) (hR : A0.get R = some (.cells (ints dirI) false)) (hXL : X ≠ L) (hGX : G ≠ X) (hGL : G ≠ L) (hRX : R ≠ X) (hRL : R ≠ L)
    (hX0 : X < A0.n) (hL0 : L < A0.n) (h2 : tget T0 2 = .pointer (some ⟨X, 0, none⟩)) (hg : g ≤ X) (hgL : g ≤ L) (hgN : g ≤ A0.n)
    (hQ : ∀ T' A' sv', A'.get X = some (.cells [sv'] false) → A'.get L = some (recL T0 [7] (.ops [oM 5 7]) body113) → AccS A0.n A' 1 (ints (nbrs w h c)) sv' → A0.n ≤ A'.n → (∀ x, x < A0.n → x ≠ X → x ≠ L → A'.get x = A0.get x) → Q (.exit 0) ⟨T', D, A'⟩) :
    ∀ (k i : Nat) (T : List Value) (A : Hp) (sv : Value), i + k = 4 → A0.n ≤ A.n → (∀ x, x < A0.n → x ≠ X → x ≠ L → A.get x = A0.get x) → A.get X = some (.cells [sv] false) → A.get L = some (recL T0 [7] (.ops [oM 5 7]) body113) →
      AccS A0.n A 1 (ints (nbI w h c i)) sv → tget T 0 = .func (.yield L) #[] #[] → tget T 2 = .pointer (some ⟨G, 0, none⟩) → tget T 4 = .int .i64 (c.tmod w) → tget T 5 = .int .i64 (c.tdiv w) → tget T 22 = .slice (some ⟨R, 0, some 2⟩) 4 4 → tget T 23 = .int .i64 4 →
      tget T 24 = .int .i64 i → W AP K g rd (.loop body114) ⟨T, D, A⟩ Q := by
  intro k
  induction k with
  | zero =>
    intro i T A sv hi hn hold hX hL hacc t0 t2 t4 t5 t22 t23 t24
    have : i = 4 := by omega
    subst this
    rw [W_loop]
    simp (disch := as_aux_lemma => first | omega | simp only [hDs] <;> omega | simp [isCell]) [hRs, takeMarks, resA, resAll, resOne, Value.cells, body114, t23, t24]
    exact hQ _ _ sv hX hL (by rw [← nbI_four]; exact hacc) hn hold
  | succ k ih =>
    intro i T A sv hi hn hold hX hL hacc t0 t2 t4 t5 t22 t23 t24
    have hi4 : i < 4 := by omega
    have hG' := (hold G (Hp.lt_of_get hG) hGX hGL).trans hG
    have hR' := (hold R (Hp.lt_of_get hR) hRX hRL).trans hR
    have hGn := Hp.lt_of_get hG'
    have hRn := Hp.lt_of_get hR'
    have hXn := Hp.lt_of_get hX
    have hLn := Hp.lt_of_get hL
    obtain ⟨⟨d1, d2⟩, d3, d4⟩ := dir_small hi4
    have hlen := nbI_len (w := w) (h := h) (c := c) i (by omega)
    have hdl : dirI.length = 8 := rfl
    rw [W_loop]
    have e1 : wr .i64 (c.tmod w + gi dirI (i * 2)) = c.tmod w + gi dirI (i * 2) := wrId (by omega) (by omega)
    have e2 : wr .i64 (c.tdiv w + gi dirI (i * 2 + 1)) = c.tdiv w + gi dirI (i * 2 + 1) := wrId (by omega) (by omega)
    have e3 : wr .i64 (w - 1) = w - 1 := wrId (by omega) (by omega)
    have e4 : wr .i64 (h - 1) = h - 1 := wrId (by omega) (by omega)
    have e5 : wr .i64 ((i : Int) + 1) = ((i + 1 : Nat) : Int) := by rw [wrId (by omega) (by omega)]; simp
    by_cases hx : (0 ≤ c.tmod w + gi dirI (i * 2) ∧ c.tmod w + gi dirI (i * 2) ≤ w - 1)
    · by_cases hy : (0 ≤ c.tdiv w + gi dirI (i * 2 + 1) ∧ c.tdiv w + gi dirI (i * 2 + 1) ≤ h - 1)
      · have e6 : (c.tdiv w + gi dirI (i * 2 + 1)) * w ≤ 24 * 24 := Int.mul_le_mul (by omega) (by omega) (by omega) (by omega)
        have e7 : 0 ≤ (c.tdiv w + gi dirI (i * 2 + 1)) * w := Int.mul_nonneg (by omega) (by omega)
        have e8 : wr .i64 ((c.tdiv w + gi dirI (i * 2 + 1)) * w) = (c.tdiv w + gi dirI (i * 2 + 1)) * w := wrId (by omega) (by omega)
        have e9 : wr .i64 ((c.tdiv w + gi dirI (i * 2 + 1)) * w + (c.tmod w + gi dirI (i * 2))) = (c.tdiv w + gi dirI (i * 2 + 1)) * w + (c.tmod w + gi dirI (i * 2)) := wrId (by omega) (by omega)
        simp (disch := as_aux_lemma => first | omega | simp only [hDs] <;> omega | simp [isCell]) [hRs, takeMarks, resA, resAll, resOne, Value.cells, body114, t0, t2, t4, t5, t22, t23, t24, show ((i : Int) < 4) by omega, hi4, idxSA_ok, idxAA_ok, hG', hR', ints_two, hdl, storeB_cells, setRange_all, w55 hK, e1, e2, e3, e4, hx, hy, e8, e9]
        refine y113 (X := X) (L := L) (N := A0.n) (sv := sv) (done := nbI w h c i) (by rw [get_push_old hXn]; exact hX) (by rw [get_push_old hLn]; exact hL) hXL (hacc.mono fun x hx => get_push_old hx) h2 hg hgL hgN (by simp; omega) hX0 hL0 (by omega) fun sv' A' k1 k2 k3 k4 k5 => ?_
        simp (disch := as_aux_lemma => first | omega | simp only [hDs] <;> omega | simp [isCell]) [hRs, takeMarks, resA, resAll, resOne, Value.cells, t24, e5]
        refine ih (i + 1) _ A' sv' (by omega) (by simp at k4; omega) (fun x hx h1 h2 => by rw [k5 x hx h1 h2, get_push_old (by omega), hold x hx h1 h2]) k1 k2 (by rw [nbI_succ hi4, nbD, if_pos ⟨hx, hy⟩]; exact k3) ?_ ?_ ?_ ?_ ?_ ?_ ?_
        all_goals simp [t0, t2, t4, t5, t22, t23]
      · simp (disch := as_aux_lemma => first | omega | simp only [hDs] <;> omega | simp [isCell]) [hRs, takeMarks, resA, resAll, resOne, Value.cells, body114, t0, t2, t4, t5, t22, t23, t24, show ((i : Int) < 4) by omega, hi4, idxSA_ok, idxAA_ok, hG', hR', ints_two, hdl, storeB_cells, setRange_all, w55 hK, e1, e2, e3, e4, hx, show (decide (0 ≤ c.tdiv w + gi dirI (i * 2 + 1)) && decide (c.tdiv w + gi dirI (i * 2 + 1) ≤ h - 1)) = false from by simpa using hy, e5]
        refine ih (i + 1) _ _ sv (by omega) (by simp; omega) (fun x hx h1 h2 => by rw [get_push_old (by omega), hold x hx h1 h2]) (by rw [get_push_old hXn]; exact hX) (by rw [get_push_old hLn]; exact hL) (by rw [nbI_succ hi4, nbD, if_neg (fun h => hy h.2), List.append_nil]; exact hacc.mono fun x hx => get_push_old hx) ?_ ?_ ?_ ?_ ?_ ?_ ?_
        all_goals simp [t0, t2, t4, t5, t22, t23]
    · simp (disch := as_aux_lemma => first | omega | simp only [hDs] <;> omega | simp [isCell]) [hRs, takeMarks, resA, resAll, resOne, Value.cells, body114, t0, t2, t4, t5, t22, t23, t24, show ((i : Int) < 4) by omega, hi4, idxSA_ok, idxAA_ok, hG', hR', ints_two, hdl, storeB_cells, setRange_all, w55 hK, e1, e2, e3, e4, show (decide (0 ≤ c.tmod w + gi dirI (i * 2)) && decide (c.tmod w + gi dirI (i * 2) ≤ w - 1)) = false from by simpa using hx, e5]
      refine ih (i + 1) _ _ sv (by omega) (by simp; omega) (fun x hx h1 h2 => by rw [get_push_old (by omega), hold x hx h1 h2]) (by rw [get_push_old hXn]; exact hX) (by rw [get_push_old hLn]; exact hL) (by rw [nbI_succ hi4, nbD, if_neg (fun h => hx h.1), List.append_nil]; exact hacc.mono fun x hx => get_push_old hx) ?_ ?_ ?_ ?_ ?_ ?_ ?_
      all_goals simp [t0, t2, t4, t5, t22, t23]
end
end Go.Ab.Wave
namespace Go.Ab.Wave
open Go Go.Ab
theorem check_parts {w h s : Int} {l : List (Int × Int)} (hc : checkG w h s l = 0) : (1 ≤ w ∧ w ≤ 24) ∧ (1 ≤ h ∧ h ≤ 24) ∧ (1 ≤ s ∧ s ≤ 10000) ∧ (l.length : Int) = w * h := by
  unfold checkG at hc
  split at hc
  · cases hc
  · rename_i h1
    split at hc
    · cases hc
    · rename_i h2
      simp only [not_or, Bool.not_eq_false, inB, Bool.and_eq_true, decide_eq_true_eq] at h1
      simp only [bne_iff_ne, ne_eq, Decidable.not_not] at h2
      have m1 : w * h ≤ 24 * 24 := Int.mul_le_mul (by omega) (by omega) (by omega) (by omega)
      have m2 : 0 ≤ w * h := Int.mul_nonneg (by omega) (by omega)
      rw [wr_id (by omega) (by omega)] at h2
      exact ⟨by omega, by omega, by omega, h2⟩
theorem cell_parts {w h c : Int} (hw : 1 ≤ w) (h0 : 0 ≤ c) (h1 : c < w * h) : (0 ≤ c.tmod w ∧ c.tmod w < w) ∧ (0 ≤ c.tdiv w ∧ c.tdiv w < h) := by
  refine ⟨⟨Int.tmod_nonneg _ h0, Int.tmod_lt_of_pos _ (by omega)⟩, Int.tdiv_nonneg h0 (by omega), ?_⟩
  rw [Int.tdiv_eq_ediv_of_nonneg h0]
  exact Int.ediv_lt_of_lt_mul (by omega) (by rw [Int.mul_comm]; exact h1)
section
variable {g : Nat} {A : Hp} {V : Value → Hp → Prop}
theorem w110 {w h s c : Int} {sl : Value} {l : List (Int × Int)} (hl : groundOf A sl = some l) (hc : checkG w h s l = 0) (hc0 : 0 ≤ c) (hc1 : c < l.length) (hg : g ≤ A.n)
    (hQ : ∀ sv A', AccS A.n A' 1 (ints (nbrs w h c)) sv → V (.tuple ⟨[sv, .int .i64 0]⟩) A') :
    WF AP Kn g 110 [gridV w h s sl, .int .i64 c] A V := by
  obtain ⟨hw, hh, hs, hln⟩ := check_parts hc
  rw [hln] at hc1
  obtain ⟨⟨p1, p2⟩, p3, p4⟩ := cell_parts hw.1 hc0 hc1
  have m1 : w * h ≤ 24 * 24 := Int.mul_le_mul (by omega) (by omega) (by omega) (by omega)
  have hl1 : groundOf (A.push (.cells [.int .i64 w, .int .i64 h, .int .i64 s, sl] false)) sl = some l :=
    groundOf_mono hl fun x hx => get_push_old hx
  have hlen : lenV sl = some (.int .i64 l.length) := by
    rcases (groundOf_cases hl).2 with ⟨rfl, rfl⟩ | ⟨x, cap, ro, rfl, _⟩
    · rfl
    · rfl
  rw [WF_body rfl (show AP 110 = some F110 from rfl)]
  simp (disch := as_aux_lemma => first | omega | simp only [hDs] <;> omega | simp [isCell]) [hRs, takeMarks, resA, resAll, resOne, Value.cells, gridV, J, WF_spec (show Kn 37 = some S37 from rfl), S37_eq hl1, hc, hlen, w55 (K := Kn) rfl, wrId (n := (l.length : Int) - 1) (by omega) (by omega), hc0, show c ≤ (l.length : Int) - 1 by omega, WF_body (K := Kn) rfl (show AP 112 = some F112 from rfl), WF_body (K := Kn) rfl (show AP 111 = some F111 from rfl), WF_body (K := Kn) rfl (show AP 113 = some F113 from rfl)]
  refine W_range (first := []) (captured := [.pointer (some ⟨A.n + 1 + 1, 0, none⟩), .pointer (some ⟨A.n + 1, 0, none⟩)]) rfl ?_
  rw [WF_body rfl (show AP 114 = some F114 from rfl)]
  have z4 : zeros 4 [.int .i64 0, .int .i64 0] = [.int .i64 0, .int .i64 0, .int .i64 0, .int .i64 0, .int .i64 0, .int .i64 0, .int .i64 0, .int .i64 0] := rfl
  have e1 : wr .i64 (c.tdiv w) = c.tdiv w := wrId (by omega) (by omega)
  simp (disch := as_aux_lemma => first | omega | simp only [hDs] <;> omega | simp [isCell]) [hRs, takeMarks, resA, resAll, resOne, Value.cells, binA_rem (show w ≠ 0 by omega), binA_quo (show w ≠ 0 by omega), e1, slitA, fillA, setRange, z4]
  let T1 : List Value := tset (tset (tset [.slice none 0 0, .func (.func 114) #[] #[.pointer (some ⟨A.n + 1 + 1, 0, none⟩), .pointer (some ⟨A.n + 1, 0, none⟩)]] 2 (.pointer (some ⟨A.n + 1 + 1 + 1, 0, none⟩))) 4 (.slice none 0 0)) 6
    (.func (.func 114) #[] #[.pointer (some ⟨A.n + 1 + 1, 0, none⟩), .pointer (some ⟨A.n + 1, 0, none⟩)])
  let bs : List ABlk := [.cells [.int .i64 w, .int .i64 h, .int .i64 s, sl] false, .cells [.int .i64 w, .int .i64 h, .int .i64 s, sl] false, .cells [.int .i64 c] false, .cells [.slice none 0 0] false, .marks,
    recL T1 [7] (.ops [oM 5 7]) body113, .cells (ints dirI) false]
  have hn : (pushL A bs).n = A.n + 7 := pushL_n bs A
  refine loop114 (A0 := pushL A bs) (K := Kn) (X := A.n + 3) (L := A.n + 5) (G := A.n + 1) (R := A.n + 6) (T0 := T1) (w := w) (h := h) (c := c) (s := s) (sl := sl) rfl hw hh ⟨p1, p2⟩ ⟨p3, p4⟩ (pushL_get bs 1 rfl) (pushL_get bs 6 rfl) (by omega) (by omega) (by omega) (by omega) (by omega)
    (by omega) (by omega) rfl (by omega) (by omega) (by omega) (fun T' A' sv' k1 k2 k3 k4 k5 => ?_) 4 0 _ _ (.slice none 0 0) rfl (Nat.le_refl _) (fun _ _ _ _ => rfl) (pushL_get bs 3 rfl) (pushL_get bs 5 rfl) AccS.nil ?_ ?_ ?_ ?_ ?_ ?_ ?_
  · have m4 : A'.get (A.n + 4) = some .marks := (k5 _ (by omega) (by omega) (by omega)).trans (pushL_get bs 4 rfl)
    have hLn := Hp.lt_of_get k2
    obtain ⟨q, n1, c1, rfl⟩ := k3.isSlice
    simp (disch := as_aux_lemma => first | omega | simp only [hDs] <;> omega | simp [isCell]) [hRs, takeMarks, resA, resAll, resOne, Value.cells, EndQ, recL, k1, k2, get_set_ne, m4]
    refine hQ (.slice q n1 c1) _ ?_
    rcases k3 with h | ⟨b, k, q1, q3, q4, q5, q6⟩
    · exact .inl h
    · refine .inr ⟨b, k, q1, ?_, by omega, q5, q6⟩
      rw [get_set_ne (by simp only [Hp.n_set]; omega) (by omega), get_set_ne (by omega) (by omega)]
      exact q3
  all_goals simp
end
def S110 : Spec := fun _ args A =>
  match args with
  | [.agg ⟨[.int .i64 w, .int .i64 h, .int .i64 s, sl]⟩, .int .i64 c] => match groundOf A sl with
    | some l => if checkG w h s l = 0 ∧ 0 ≤ c ∧ c < (l.length : Int) then some (.tuple ⟨[accV A.n 1 (ints (nbrs w h c)), J 0]⟩, outHp A (accOut (ints (nbrs w h c)))) else none
    | none => none
  | _ => none
theorem S110_ok (g : Nat) (args : List Value) (A : Hp) (v : Value) (A' : Hp) (h : S110 g args A = some (v, A')) : FnSound E g 110 args A v A' ∧ HK g A A' := by
  unfold S110 at h
  split at h
  · rename_i w hh s sl c
    split at h
    · rename_i l hl
      split at h
      · rename_i hc
        cases h
        refine grid_row (mk := fun n => .tuple ⟨[accV n 1 (ints (nbrs w hh c)), J 0]⟩) (rest := [J c]) hl (fun ρ => rfl) (fun ρ n => ren_tuple_acc rfl) (fun sl rows hg hok => ?_) g
        refine pact_acc_tuple Kn_ok (by decide) (isFn' 110 _ _ _ rfl) (by rw [List.all_cons, hok]; rfl) rfl (ints_simple _) ?_
        exact w110 hg hc.1 hc.2.1 hc.2.2 (Nat.le_refl _) fun sv A' ha => ⟨sv, rfl, ha⟩
      · cases h
    · cases h
  · cases h
end Go.Ab.Wave
set_option maxRecDepth 100000
namespace Go.Ab.Wave
open Go Go.Ab
def I (n : Int) : Value := .int .i64 n
def sp (a b : Int) : Value := .agg ⟨[I a, I b]⟩
def rowFour : List Value := [I (-40000), I (-40000), I (-40000), I (-40000), I (-1000), I (-1000), I 300, I 300]
def rowStart : List Value := [I 0, I 0, I 0, I 128, I 256]
def grd : Value := .agg ⟨[I 4, I 1, I 1000, .slice (some ⟨0, 0, some 2⟩) 4 4]⟩
theorem isFn (f : Nat) (h : (match AP f with | some (.fn _ _ _) => true | _ => false) = true) : ∃ nt rs body, E.AP f = some (.fn nt rs body) := by
  show ∃ nt rs body, AP f = some (.fn nt rs body)
  split at h
  · rename_i nt rs body he; exact ⟨nt, rs, body, he⟩
  · cases h
def mCheck : Memo := ⟨[rowFour], [grd], I 0, none⟩
theorem mCheck_ok : mCheck.Ok E 37 := Memo.ok_of_check noneK_ok (m := 100) (d := 20) (isFn 37 (by kernel_rfl)) (by kernel_rfl) (by kernel_rfl)
def K1 : Nat → Option Spec := tableK [(37, [mCheck])]
theorem K1_ok : SpecsOk E K1 := tableK_ok (by
  intro p hp
  simp only [List.mem_singleton] at hp
  subst hp
  exact ⟨isFn 37 (by kernel_rfl), fun M hM => by simp only [List.mem_singleton] at hM; subst hM; exact mCheck_ok⟩)
def mNear (c : Int) (l : List Value) : Memo := ⟨[rowFour], [grd, I c], .tuple ⟨[.slice (some ⟨1, 0, some 1⟩) l.length l.length, I 0]⟩, some l⟩
theorem mNear0_ok : (mNear 0 [I 1]).Ok E 110 := Memo.ok_of_check K1_ok (m := 100) (d := 20) (isFn 110 (by kernel_rfl)) (by kernel_rfl) (by kernel_rfl)
theorem mNear1_ok : (mNear 1 [I 2, I 0]).Ok E 110 := Memo.ok_of_check K1_ok (m := 100) (d := 20) (isFn 110 (by kernel_rfl)) (by kernel_rfl) (by kernel_rfl)
theorem mNear2_ok : (mNear 2 [I 3, I 1]).Ok E 110 := Memo.ok_of_check K1_ok (m := 100) (d := 20) (isFn 110 (by kernel_rfl)) (by kernel_rfl) (by kernel_rfl)
theorem mNear3_ok : (mNear 3 [I 2]).Ok E 110 := Memo.ok_of_check K1_ok (m := 100) (d := 20) (isFn 110 (by kernel_rfl)) (by kernel_rfl) (by kernel_rfl)
def nears : List Memo := [mNear 0 [I 1], mNear 1 [I 2, I 0], mNear 2 [I 3, I 1], mNear 3 [I 2]]
theorem nears_ok : ∀ M ∈ nears, M.Ok E 110 := by
  intro M hM
  simp only [nears, List.mem_cons, List.not_mem_nil, or_false] at hM
  rcases hM with rfl | rfl | rfl | rfl
  · exact mNear0_ok
  · exact mNear1_ok
  · exact mNear2_ok
  · exact mNear3_ok
def K2 : Nat → Option Spec := tableK [(37, [mCheck]), (110, nears)]
theorem K2_ok : SpecsOk E K2 := tableK_ok (by
  intro p hp
  simp only [List.mem_cons, List.not_mem_nil, or_false] at hp
  rcases hp with rfl | rfl
  · exact ⟨isFn 37 (by kernel_rfl), fun M hM => by simp only [List.mem_singleton] at hM; subst hM; exact mCheck_ok⟩
  · exact ⟨isFn 110 (by kernel_rfl), nears_ok⟩)
end Go.Ab.Wave
