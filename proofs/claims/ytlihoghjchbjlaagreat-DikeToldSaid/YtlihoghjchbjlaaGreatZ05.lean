/- One operation of a region whose order is drawn; the whole region. -/
import Derived.Test.YtlihoghjchbjlaaGreatZ04
set_option linter.unusedSimpArgs false
set_option linter.unusedVariables false
set_option linter.unusedSectionVars false
namespace Go.Ab
section
variable {E : Env} {nt lim : Nat} {cv : CallFn} {g : Nat} {ops : Array Oper} {al : List AOper} {st : Nat → List Value × Hp}
def writes (al : List AOper) (i : Nat) : Prop := memOf al i = 3 ∨ memOf al i = 4 ∨ memOf al i = 5 ∨ memOf al i = 7
instance (al : List AOper) (i : Nat) : Decidable (writes al i) := by unfold writes; exact inferInstance
theorem mem_at {al : List AOper} {i : Nat} {ao : AOper} (h : al[i]? = some ao) : memOf al i = ao.op.mem := by simp [memOf, h]
theorem nextWriter {al : List AOper} {n p : Nat} (hp : p ≤ n) : ∃ q, p ≤ q ∧ q ≤ n ∧ (∀ j, p ≤ j → j < q → ¬ writes al j) ∧ (q < n → writes al q) := by
  have key : ∀ k p, p + k = n → ∃ q, p ≤ q ∧ q ≤ n ∧ (∀ j, p ≤ j → j < q → ¬ writes al j) ∧ (q < n → writes al q) := by
    intro k
    induction k with
    | zero => intro p hp; exact ⟨p, Nat.le_refl _, by omega, fun j h1 h2 => by omega, fun h => by omega⟩
    | succ k ih =>
      intro p hp
      by_cases hw : writes al p
      · exact ⟨p, Nat.le_refl _, by omega, fun j h1 h2 => by omega, fun _ => hw⟩
      · obtain ⟨q, h1, h2, h3, h4⟩ := ih (p + 1) (by omega)
        refine ⟨q, by omega, h2, fun j hj1 hj2 => ?_, h4⟩
        by_cases h : j = p
        · subst h; exact hw
        · exact h3 j (by omega) hj2
  exact key (n - p) p (by omega)
structure Draw (E : Env) (nt lim : Nat) (cv : CallFn) (g : Nat) (ops : Array Oper) (al : List AOper) (st : Nat → List Value × Hp) : Prop where
  call : CallSound E cv
  keeps : CallKeeps cv
  formed : Formed' E nt ops al
  step : ∀ i o, al[i]? = some o → Step cv g o (st i) (st (i + 1))
  ok : drawOk al (ops.toList.map edgesOf) = true
  hlim : (st ops.size).2.n ≤ lim
namespace Draw
variable (D : Draw E nt lim cv g ops al st)
include D
theorem size : al.length = ops.size := D.formed.1
theorem loadT_at {i : Nat} {ao : AOper} (h : al[i]? = some ao) : loadT ao = true := by
  have hk := D.ok
  unfold drawOk at hk
  simp only [Bool.and_eq_true] at hk
  exact List.all_eq_true.1 hk.1 ao (List.mem_of_getElem? h)
theorem pair {i j : Nat} (hi : i < ops.size) (hj : j < ops.size) : pairOk al (befA (ops.toList.map edgesOf)) i j = true ∧ dstOk al (befA (ops.toList.map edgesOf)) i j = true := by
  have h := D.ok
  unfold drawOk at h
  simp only [Bool.and_eq_true] at h
  have h1 := List.all_eq_true.1 h.2 j (List.mem_range.2 (by rw [D.size]; exact hj))
  simp only [Bool.and_eq_true] at h1
  have h2 := List.all_eq_true.1 h1.2 i (List.mem_range.2 (by rw [D.size]; exact hi))
  simpa using h2
theorem back {j : Nat} (hj : j < ops.size) : ∀ e ∈ (ops.toList.map edgesOf).getD j [], e < j := by
  have h := D.ok
  unfold drawOk at h
  simp only [Bool.and_eq_true] at h
  have h1 := List.all_eq_true.1 h.2 j (List.mem_range.2 (by rw [D.size]; exact hj))
  simp only [Bool.and_eq_true] at h1
  intro e he
  have := List.all_eq_true.1 h1.1 e he
  simpa using this
theorem at_ {i : Nat} (hi : i < ops.size) : ∃ o ao, ops[i]? = some o ∧ al[i]? = some ao := ⟨ops[i], al[i]'(by rw [D.size]; exact hi), by simp [hi], by simp⟩
theorem len_step {i : Nat} (hi : i < ops.size) : (st i).2.n ≤ (st (i + 1)).2.n := by
  obtain ⟨o, ao, _, hao⟩ := D.at_ hi
  rcases D.step i ao hao with ⟨_, _, v, h, _⟩ | ⟨_, h, _⟩
  · exact opA_len D.keeps h
  · rw [h]; exact Nat.le_refl _
theorem len_le {i j : Nat} (hij : i ≤ j) (hj : j ≤ ops.size) : (st i).2.n ≤ (st j).2.n := by
  induction j with
  | zero => have : i = 0 := by omega
            subst this; exact Nat.le_refl _
  | succ j ih =>
    by_cases h : i = j + 1
    · subst h; exact Nat.le_refl _
    · exact Nat.le_trans (ih (by omega) (by omega)) (D.len_step (by omega))
theorem still_step {i : Nat} (hi : i < ops.size) (hw : ¬ writes al i) : ∀ x, x < (st i).2.n → (st (i + 1)).2.get x = (st i).2.get x := by
  obtain ⟨o, ao, _, hao⟩ := D.at_ hi
  intro x hx
  rcases D.step i ao hao with ⟨_, _, v, h, _⟩ | ⟨_, h, _⟩
  · refine opA_still D.keeps ?_ h x hx
    unfold writes at hw
    rw [mem_at hao] at hw
    omega
  · rw [h]
theorem still {i j : Nat} (hij : i ≤ j) (hj : j ≤ ops.size) (hw : ∀ k, i ≤ k → k < j → ¬ writes al k) : ∀ x, x < (st i).2.n → (st j).2.get x = (st i).2.get x := by
  induction j with
  | zero => intro x _; have : i = 0 := by omega
            subst this; rfl
  | succ j ih =>
    intro x hx
    by_cases h : i = j + 1
    · subst h; rfl
    · rw [D.still_step (by omega) (hw j (by omega) (by omega)) x (Nat.lt_of_lt_of_le hx (D.len_le (by omega) (by omega)))]
      exact ih (by omega) (by omega) (fun k h1 h2 => hw k h1 (by omega)) x hx
def _root_.Go.Ab.dstAt (al : List AOper) (i d : Nat) : Prop := ∃ ao, al[i]? = some ao ∧ ao.dst = some d
theorem dst_lt {i d : Nat} (h : dstAt al i d) : i < ops.size := by
  obtain ⟨ao, h1, _⟩ := h
  have := (List.getElem?_eq_some_iff.1 h1).1
  rw [D.size] at this; exact this
theorem dst_unique {i j d : Nat} (hi : dstAt al i d) (hj : dstAt al j d) : i = j := by
  have hil := D.dst_lt hi
  have hjl := D.dst_lt hj
  obtain ⟨o1, h1, h2⟩ := hi
  obtain ⟨o2, h3, h4⟩ := hj
  have := (D.pair hil hjl).2
  unfold dstOk at this
  rw [h1, h3] at this
  simp only [h2, h4, Bool.or_eq_true, beq_iff_eq] at this
  rcases this with h | h
  · exact h
  · simp at h
theorem tmp_step {i d : Nat} (hi : i < ops.size) (hd : ¬ dstAt al i d) : tget (st (i + 1)).1 d = tget (st i).1 d := by
  obtain ⟨o, ao, _, hao⟩ := D.at_ hi
  have : ∀ v, tget (putA ao.dst (st i).1 v) d = tget (st i).1 d := fun v => by
    cases hdd : ao.dst with
    | none => rfl
    | some d' =>
      simp only [putA, tget_tset]
      rw [if_neg]
      intro h; subst h; exact hd ⟨ao, hao, hdd⟩
  rcases D.step i ao hao with ⟨_, _, v, _, h⟩ | ⟨_, _, h⟩ <;> rw [h] <;> exact this _
theorem tmp_same {i j d : Nat} (hij : i ≤ j) (hj : j ≤ ops.size) (h : ∀ k, i ≤ k → k < j → ¬ dstAt al k d) : tget (st j).1 d = tget (st i).1 d := by
  induction j with
  | zero => have : i = 0 := by omega
            subst this; rfl
  | succ j ih =>
    by_cases h' : i = j + 1
    · subst h'; rfl
    · rw [D.tmp_step (by omega) (h j (by omega) (by omega))]
      exact ih (by omega) (by omega) (fun k h1 h2 => h k h1 (by omega))
end Draw
def _root_.Go.Ab.Hp.re (A : Hp) (n : Nat) : Hp := ⟨n, (List.range n).map fun k => A.get (n - 1 - k)⟩
theorem _root_.Go.Ab.Hp.get_re (A : Hp) (n x : Nat) : (A.re n).get x = if x < n then A.get x else none := by
  by_cases h : x < n
  · have e : n - 1 - (n - 1 - x) = x := by omega
    simp [Hp.get, Hp.re, h, show n - 1 - x < n by omega, e]
  · simp [Hp.get, Hp.re, h]
structure Hold (E : Env) (lim : Nat) (ops : Array Oper) (al : List AOper) (st : Nat → List Value × Hp) (S : Nat → Prop) (φ : NM) (w : World) (t : Nat) : Prop where
  wf : ∀ x e, φ x = some e → e.blk < w.heap.size
  blk : ∀ x b e, (st t).2.get x = some b → φ x = some e → RelB E φ w b e
  sep : ∀ x y b c ex ey, x ≠ y → (st t).2.get x = some b → (st t).2.get y = some c → φ x = some ex → φ y = some ey → b.own = true → ex.blk ≠ ey.blk
  far : ∀ x e, φ x = some e → (st t).2.n ≤ x → x < lim → ∃ i b, S i ∧ t ≤ i ∧ i < ops.size ∧ memOf al i = 2 ∧ x = (st i).2.n ∧ (st (i + 1)).2.get x = some b ∧ RelB E φ w b e ∧
    ∀ y ey, φ y = some ey → ey.blk = e.blk → y = x
theorem Hold.rel {S : Nat → Prop} {φ : NM} {w : World} {t lim' : Nat} {B : Hp} (H : Hold E lim ops al st S φ w t) (hget : ∀ y b, B.get y = some b → (st t).2.get y = some b)
    (hdom : ∀ x e, φ x = some e → x < B.n ∨ lim' ≤ x) : Rel E lim' φ B w :=
  ⟨hdom, H.wf, fun x b e hb he => H.blk x b e (hget x b hb) he, fun x y b c ex ey hxy hb hc => H.sep x y b c ex ey hxy (hget x b hb) (hget y c hc)⟩
structure Inv (E : Env) (nt lim : Nat) (g : Nat) (ops : Array Oper) (al : List AOper) (st : Nat → List Value × Hp) (φ0 : NM) (w0 : World) (ds : List Deferred) (S : Nat → Prop) (φ : NM) (a : Act) (w : World) (t : Nat) (TS : List Value) : Prop where
  tle : t ≤ ops.size
  before : ∀ j, j < t → writes al j → S j
  behind : ∀ j, t ≤ j → j < ops.size → writes al j → ¬ S j
  tw : t < ops.size → writes al t
  bound : ∀ j, S j → j < ops.size
  closed : ∀ j, j < ops.size → S j → ∀ e ∈ (ops.toList.map edgesOf).getD j [], S e
  done : ∀ i d, S i → dstAt al i d → tget TS d = tget (st ops.size).1 d
  undone : ∀ d, (∀ i, S i → ¬ dstAt al i d) → tget TS d = tget (st 0).1 d
  rel : RelT E.lab φ nt TS a.tmps
  defers : a.defers = ds
  ext : Ext φ0 φ
  new : ∀ x e, φ x = some e → φ0 x = some e ∨ ∃ i, S i ∧ (st i).2.n ≤ x ∧ x < (st (i + 1)).2.n
  heap : Hold E lim ops al st S φ w t
  size : w0.heap.size ≤ w.heap.size
  frame : ∀ b, b < w0.heap.size → (∀ x e, φ0 x = some e → e.blk = b → x < g ∨ lim ≤ x ∨ roAt (st 0).2 x) → w.heap[b]? = w0.heap[b]?
  fresh : ∀ x e, φ x = some e → φ0 x = none → w0.heap.size ≤ e.blk ∨ ∃ y ey, φ0 y = some ey ∧ g ≤ y ∧ y < lim ∧ ¬ roAt (st 0).2 y ∧ ey.blk = e.blk
  ro : ∀ x, roAt (st 0).2 x → roAt (st t).2 x
  env : w.os = w0.os ∧ w.output = w0.output ∧ w.tape = w0.tape
theorem Rel.heap_mono {φ : NM} {A B : Hp} {w : World} (hR : Rel E lim φ A w) (hn : A.n ≤ B.n) (hl : B.n ≤ lim) (hg : ∀ x, x < A.n → B.get x = A.get x) : Rel E lim φ B w := by
  have key : ∀ {x : Nat} {b : ABlk} {e : Ent}, B.get x = some b → φ x = some e → A.get x = some b := fun {x b e} hb he => by
    have := Hp.lt_of_get hb
    rcases hR.dom x e he with h | h
    · rw [← hg x h]; exact hb
    · omega
  exact ⟨fun x e h => (hR.dom x e h).imp (fun h => Nat.lt_of_lt_of_le h hn) id, hR.wf, fun x b e hb he => hR.blk x b e (key hb he) he,
    fun x y b c ex ey hxy hb hc hx hy hrw => hR.sep x y b c ex ey hxy (key hb hx) (key hc hy) hx hy hrw⟩
namespace Draw
variable (D : Draw E nt lim cv g ops al st)
section
variable {φ0 : NM} {w0 : World} {ds : List Deferred} {S : Nat → Prop} {φ : NM} {a : Act} {w : World} {t : Nat} {TS : List Value}
include D
theorem ahead (I : Inv E nt lim g ops al st φ0 w0 ds S φ a w t TS) {i j : Nat} (hj : j < ops.size) (h : ((befA (ops.toList.map edgesOf)).getD j 0).testBit i = true) (hS : S j) : S i :=
  bef_closed (aft := ops.toList.map edgesOf) (fun j hj => D.back (by simpa using hj)) (S := S) (fun j hj hs => I.closed j (by simpa using hj) hs) j (by simpa using hj) hS i h
theorem ahead_ready (I : Inv E nt lim g ops al st φ0 w0 ds S φ a w t TS) {i j : Nat} (hj : j < ops.size) (hready : ∀ e ∈ (ops.toList.map edgesOf).getD j [], S e) (h : ((befA (ops.toList.map edgesOf)).getD j 0).testBit i = true) : S i := by
  have hlt := bef_lt (aft := ops.toList.map edgesOf) (fun j hj => D.back (by simpa using hj)) j (by simpa using hj) i h
  have := bef_closed (aft := ops.toList.map edgesOf) (fun j hj => D.back (by simpa using hj)) (S := fun k => S k ∨ k = j) (fun k hk hs e he => by
    rcases hs with hs | hs
    · exact .inl (I.closed k (by simpa using hk) hs e he)
    · subst hs; exact .inl (hready e he)) j (by simpa using hj) (.inr rfl) i h
  rcases this with h | h
  · exact h
  · omega
theorem looks_same (I : Inv E nt lim g ops al st φ0 w0 ds S φ a w t TS) {i d : Nat} {ao : AOper} (hao : al[i]? = some ao) (hi : i < ops.size) (hS : ¬ S i) (hready : ∀ e ∈ (ops.toList.map edgesOf).getD i [], S e)
    (hd : d ∈ ao.looks) : tget TS d = tget (st i).1 d := by
  by_cases hex : ∃ j, dstAt al j d
  · obtain ⟨j, hj⟩ := hex
    have hjl := D.dst_lt hj
    by_cases hji : j = i
    · subst hji
      rw [I.undone d (fun k hk hkd => by have := D.dst_unique hkd hj; subst this; exact hS hk)]
      exact (D.tmp_same (Nat.zero_le _) (by omega) fun k _ hk hkd => by have := D.dst_unique hkd hj; omega).symm
    · have hpair := (D.pair hjl hi).2
      obtain ⟨oj, hoj, hdj⟩ := hj
      unfold dstOk at hpair
      rw [hoj, hao] at hpair
      simp only [hdj, Bool.or_eq_true, beq_iff_eq, hji, false_or, Bool.and_eq_true, Bool.not_eq_true', bne_iff_ne, ne_eq] at hpair
      have hord : ordered (befA (ops.toList.map edgesOf)) j i = true := by
        rcases hpair.2 with h | h
        · rw [List.contains_eq_mem] at h; simp [hd] at h
        · exact h
      have hj' : dstAt al j d := ⟨oj, hoj, hdj⟩
      unfold ordered at hord
      rw [Bool.or_eq_true] at hord
      rcases hord with h | h
      ·
        have hSj := D.ahead_ready I hi hready h
        have hlt := bef_lt (aft := ops.toList.map edgesOf) (fun j hj => D.back (by simpa using hj)) i (by simpa using hi) j h
        rw [I.done j d hSj hj']
        exact D.tmp_same (by omega) (Nat.le_refl _) fun k hk _ hkd => by have := D.dst_unique hkd hj'; omega
      ·
        have hlt := bef_lt (aft := ops.toList.map edgesOf) (fun j hj => D.back (by simpa using hj)) j (by simpa using hjl) i h
        have hSj : ¬ S j := fun hs => hS (D.ahead I hjl h hs)
        rw [I.undone d (fun k hk hkd => by have := D.dst_unique hkd hj'; subst this; exact hSj hk)]
        exact (D.tmp_same (Nat.zero_le _) (by omega) fun k _ hk hkd => by have := D.dst_unique hkd hj'; omega).symm
  · rw [I.undone d (fun k _ hkd => hex ⟨k, hkd⟩)]
    exact (D.tmp_same (Nat.zero_le _) (by omega) fun k _ _ hkd => hex ⟨k, hkd⟩).symm
theorem ev_same (I : Inv E nt lim g ops al st φ0 w0 ds S φ a w t TS) {i : Nat} {ao : AOper} (hao : al[i]? = some ao) (hi : i < ops.size) (hS : ¬ S i) (hready : ∀ e ∈ (ops.toList.map edgesOf).getD i [], S e) :
    ∀ x ∈ ao.op.opds, ev TS x = ev (st i).1 x := by
  intro x hx
  cases x with
  | k v => rfl
  | t n =>
    refine D.looks_same I hao hi hS hready ?_
    unfold AOper.looks tmpsOf
    exact List.mem_append_left _ (List.mem_filterMap.2 ⟨.t n, hx, rfl⟩)
theorem wanted_same (I : Inv E nt lim g ops al st φ0 w0 ds S φ a w t TS) {i : Nat} {ao : AOper} (hao : al[i]? = some ao) (hi : i < ops.size) (hS : ¬ S i) (hready : ∀ e ∈ (ops.toList.map edgesOf).getD i [], S e) :
    wantedA ao.guard TS = wantedA ao.guard (st i).1 := by
  cases hg : ao.guard with
  | none => rfl
  | some p =>
    obtain ⟨d, b⟩ := p
    have := D.looks_same I hao hi hS hready (d := d) (by unfold AOper.looks; rw [hg]; simp)
    simp only [wantedA, this]
theorem put_done (I : Inv E nt lim g ops al st φ0 w0 ds S φ a w t TS) {i : Nat} {ao : AOper} {v : Value} (hao : al[i]? = some ao) (hi : i < ops.size) (hv : (st (i + 1)).1 = putA ao.dst (st i).1 v) :
    (∀ k d, (S k ∨ k = i) → dstAt al k d → tget (putA ao.dst TS v) d = tget (st ops.size).1 d) ∧ (∀ d, (∀ k, (S k ∨ k = i) → ¬ dstAt al k d) → tget (putA ao.dst TS v) d = tget (st 0).1 d) := by
  have hself : ∀ d, ao.dst = some d → tget (putA ao.dst TS v) d = tget (st ops.size).1 d := by
    intro d hd
    have hdi : dstAt al i d := ⟨ao, hao, hd⟩
    have e1 := D.tmp_same (i := i + 1) (j := ops.size) (d := d) (by omega) (Nat.le_refl _) fun k hk _ hkd => by have := D.dst_unique hkd hdi; omega
    rw [e1, hv, hd]
    simp [putA]
  have hother : ∀ d, ¬ dstAt al i d → tget (putA ao.dst TS v) d = tget TS d := by
    intro d hd
    cases hdd : ao.dst with
    | none => rfl
    | some d' =>
      simp only [putA, tget_tset]
      rw [if_neg]
      intro h; subst h; exact hd ⟨ao, hao, hdd⟩
  constructor
  · intro k d hk hkd
    by_cases hki : k = i
    · subst hki
      obtain ⟨ao', h1, h2⟩ := hkd
      rw [hao] at h1; cases h1
      exact hself d h2
    · have hSk : S k := hk.resolve_right hki
      rw [hother d (fun h => hki (D.dst_unique hkd h))]
      exact I.done k d hSk hkd
  · intro d hd
    rw [hother d (hd i (.inr rfl))]
    exact I.undone d fun k hk => hd k (.inl hk)
theorem load_same {i j : Nat} {b o : Nat} {s : Option Nat} {p q : Nat} (hpq : p ≤ q) (hq : q ≤ ops.size) (hb : b < (st p).2.n)
    (hstep : ∀ k, p ≤ k → k < q → ¬ writes al k ∨ (∀ (B B' : Hp), (st k).2 = B → (st (k + 1)).2 = B' → loadA B' (.pointer (some ⟨b, o, none⟩)) s = loadA B (.pointer (some ⟨b, o, none⟩)) s)) :
    loadA (st q).2 (.pointer (some ⟨b, o, none⟩)) s = loadA (st p).2 (.pointer (some ⟨b, o, none⟩)) s := by
  have _ := i; have _ := j
  induction q with
  | zero => have : p = 0 := by omega
            subst this; rfl
  | succ q ih =>
    by_cases h : p = q + 1
    · subst h; rfl
    · rw [← ih (by omega) (by omega) fun k h1 h2 => hstep k h1 (by omega)]
      rcases hstep q (by omega) (by omega) with hw | hl
      · have := D.still_step (by omega) hw b (Nat.lt_of_lt_of_le hb (D.len_le (by omega) (by omega)))
        simp only [loadA, this]
      · exact hl _ _ rfl rfl
end
end Draw
theorem setRange_part {cs vs : List Value} {o o' : Nat} {s : Option Nat} (hle : o + vs.length ≤ cs.length) (h : o + vs.length ≤ o' ∨ o' + s.getD 1 ≤ o) : partA (setRange cs o vs) o' s = partA cs o' s := by
  cases s with
  | none =>
    simp only [Option.getD_none] at h
    simp only [partA]
    rw [setRange_get hle, if_neg (by omega)]
  | some s =>
    simp only [Option.getD_some] at h
    simp only [partA, setRange_length hle]
    split
    · congr 2
      apply congrArg
      apply List.ext_getElem?
      intro k
      rw [List.getElem?_take, List.getElem?_take]
      split
      · rw [List.getElem?_drop, List.getElem?_drop, setRange_get hle]
        rw [if_neg (by omega)]
      · rfl
    · rfl
theorem store_apart {g b o n b' o' : Nat} {s : Option Nat} {vs : List Value} {A A' : Hp} (hw : writeA g A b o vs = some A') (hl : vs.length = n) (h : b ≠ b' ∨ o + n ≤ o' ∨ o' + s.getD 1 ≤ o) :
    loadA A' (.pointer (some ⟨b', o', none⟩)) s = loadA A (.pointer (some ⟨b', o', none⟩)) s := by
  obtain ⟨_, cs, hcs, hle, rfl⟩ := writeA_some hw
  simp only [loadA, Hp.get_set hcs]
  by_cases hb : b' = b
  · subst hb
    rw [if_pos rfl, hcs]
    exact setRange_part hle (by rcases h with h | h | h <;> omega)
  · rw [if_neg hb]
theorem stable_spec {al : List AOper} {n m xx : Nat} (hn : al.length = n) (hs : stable al m xx = true) : ∀ q, m ≤ q → q < n → ¬ dstAt al q xx := by
  intro q hmq hq ⟨aq, haq, hdq⟩
  unfold stable at hs
  have := List.all_eq_true.1 hs q (List.mem_range.2 (by rw [hn]; exact hq))
  simp [haq, hdq] at this
  omega
theorem cap_only {o : AOp} {y : Nat} {cv : CallFn} {g : Nat} {T : List Value} {A A' : Hp} {v : Value} (hc : o.cap = some y) (h : opA o cv g T A = some (v, A')) : OnlyC A (tget T y) A' := by
  have wr : ∀ {b off : Nat} {vs : List Value} {B : Hp} {x : Nat}, writeA g A b off vs = some B → x ≠ b → B.get x = A.get x := fun hw hx => by
    obtain ⟨hgb, cs, hcs, _, rfl⟩ := writeA_some hw
    rw [Hp.get_set hcs, if_neg hx]
  cases o <;> simp only [AOp.cap] at hc <;> try (cases hc; done)
  case callC c f l =>
    cases c with
    | k u => cases hc
    | t z => cases hc; exact (stillBut_some h).2
  case append s x e by_ =>
    cases s with
    | k u => cases hc
    | t z =>
      cases hc
      intro q hq hn
      simp only [opA, ev] at h
      generalize tget T y = sv at h hn
      simp only [appendA] at h
      repeat' (split at h)
      all_goals try (cases h; done)
      all_goals try (cases h; rfl)
      · cases h; rw [Hp.get_push, if_neg (by omega)]
      · cases h
        rename_i hcs _ _
        simp only [capsOf, List.mem_singleton] at hn
        rw [Hp.get_push, if_neg (by simp; omega), Hp.get_set hcs, if_neg hn]
      · simp only [Option.map_eq_some_iff] at h
        obtain ⟨A1, hw, he⟩ := h
        cases he
        exact wr hw (by simpa [capsOf] using hn)
  case copy d s e =>
    cases d with
    | k u => cases hc
    | t z =>
      cases hc
      intro q hq hn
      simp only [opA, ev] at h
      generalize tget T y = sv at h hn
      simp only [copyA] at h
      repeat' (split at h)
      all_goals try (cases h; done)
      · simp only [Option.map_eq_some_iff] at h
        obtain ⟨A1, hw, he⟩ := h
        cases he
        exact wr hw (by simpa [capsOf] using hn)
      · cases h; rfl
theorem apartA_caps {T : List Value} {p : Opd × Nat × Opd × Nat} {b o : Nat} (h : apartA T p = true) (h2 : ev T p.2.2.1 = .pointer (some ⟨b, o, none⟩)) : b ∉ capsOf (ev T p.1) := by
  unfold apartA at h
  rw [h2] at h
  cases hF : ev T p.1 with
  | func f x y => rw [hF] at h; simpa using h
  | slice p n c =>
    cases p with
    | none => simp [capsOf]
    | some a => obtain ⟨x, y, z⟩ := a; rw [hF] at h; simpa [capsOf] using h
  | _ => simp [capsOf]
end
end Go.Ab
namespace Go.Ab
section
variable {E : Env} {nt lim : Nat} {cv : CallFn} {g : Nat} {ops : Array Oper} {al : List AOper} {st : Nat → List Value × Hp}
namespace Draw
variable (D : Draw E nt lim cv g ops al st)
variable {φ0 : NM} {w0 : World} {ds : List Deferred} {S : Nat → Prop} {φ : NM} {a : Act} {w : World} {t : Nat} {TS : List Value}
include D
theorem writer_ordered {i j : Nat} (hi : i < ops.size) (hj : j < ops.size) (hij : i ≠ j) (hw : writes al i) (hm : memOf al j ≠ 0 ∧ memOf al j ≠ 1 ∧ memOf al j ≠ 2) :
    ((befA (ops.toList.map edgesOf)).getD j 0).testBit i = true ∨ ((befA (ops.toList.map edgesOf)).getD i 0).testBit j = true := by
  have h := (D.pair hi hj).1
  unfold pairOk at h
  have h1 : (i == j) = false := by simpa using hij
  have h2 : (memOf al j == 0) = false := by simpa using hm.1
  have h3 : (memOf al j == 1) = false := by simpa using hm.2.1
  have hm2 := hm.2.2
  have hord : ordered (befA (ops.toList.map edgesOf)) i j = true := by
    rcases hw with h' | h' | h' | h' <;> rw [h'] at h <;> simp [h1, h2, h3, hm2] at h <;> exact h
  simpa [ordered] using hord
theorem lt_of_bit {i j : Nat} (hj : j < ops.size) (h : ((befA (ops.toList.map edgesOf)).getD j 0).testBit i = true) : i < j :=
  bef_lt (aft := ops.toList.map edgesOf) (fun j hj => D.back (by simpa using hj)) j (by simpa using hj) i h
theorem writer_is (I : Inv E nt lim g ops al st φ0 w0 ds S φ a w t TS) {i : Nat} (hi : i < ops.size) (hS : ¬ S i) (hready : ∀ e ∈ (ops.toList.map edgesOf).getD i [], S e) (hw : writes al i) : i = t := by
  rcases Nat.lt_trichotomy i t with h | h | h
  · exact absurd (I.before i h hw) hS
  · exact h
  · have htl : t < ops.size := by omega
    have hwt := I.tw htl
    have hSt := I.behind t (Nat.le_refl _) htl hwt
    have hm : memOf al i ≠ 0 ∧ memOf al i ≠ 1 ∧ memOf al i ≠ 2 := by unfold writes at hw; omega
    rcases D.writer_ordered htl hi (by omega) hwt hm with hb | hb
    · exact absurd (D.ahead_ready I hi hready hb) hSt
    · have := D.lt_of_bit htl hb; omega
theorem caller_lt (I : Inv E nt lim g ops al st φ0 w0 ds S φ a w t TS) {i : Nat} (hi : i < ops.size) (hS : ¬ S i) (hready : ∀ e ∈ (ops.toList.map edgesOf).getD i [], S e) (hm : memOf al i = 6) :
    i < t ∧ ∀ j, i ≤ j → j < t → ¬ writes al j := by
  have hm' : memOf al i ≠ 0 ∧ memOf al i ≠ 1 ∧ memOf al i ≠ 2 := by omega
  have hwi : ¬ writes al i := by unfold writes; omega
  constructor
  · rcases Nat.lt_or_ge i t with h | h
    · exact h
    · exfalso
      have htl : t < ops.size := by omega
      have hwt := I.tw htl
      have hne : t ≠ i := fun h => hwi (h ▸ hwt)
      have hSt := I.behind t (Nat.le_refl _) htl hwt
      rcases D.writer_ordered htl hi hne hwt hm' with hb | hb
      · exact hSt (D.ahead_ready I hi hready hb)
      · have := D.lt_of_bit htl hb; omega
  · intro j hij hjt hwj
    have hne : j ≠ i := fun h => hwi (h ▸ hwj)
    have hjl : j < ops.size := Nat.lt_of_lt_of_le hjt I.tle
    have hSj := I.before j hjt hwj
    rcases D.writer_ordered hjl hi hne hwj hm' with hb | hb
    · have := D.lt_of_bit hi hb; omega
    · exact hS (D.ahead I hjl hb hSj)
theorem load_now (I : Inv E nt lim g ops al st φ0 w0 ds S φ a w t TS) {i : Nat} {ao : AOper} {x : Opd} {s : Option Nat} {v : Value} (hao : al[i]? = some ao) (hi : i < ops.size) (hS : ¬ S i)
    (hready : ∀ e ∈ (ops.toList.map edgesOf).getD i [], S e) (hop : ao.op = .load x s) (hwant : wantedA ao.guard (st i).1 = true) (hap : ao.apart.all (apartA (st i).1) = true)
    (hl : loadA (st i).2 (ev (st i).1 x) s = some v) : ∃ B : Hp, Rel E B.n φ B w ∧ loadA B (ev (st i).1 x) s = some v := by
  have hmi : memOf al i = 1 := by rw [mem_at hao, hop]; rfl
  obtain ⟨b, o, haddr⟩ : ∃ b o, ev (st i).1 x = .pointer (some ⟨b, o, none⟩) := by
    unfold loadA at hl
    split at hl
    · rename_i b o heq; exact ⟨b, o, heq⟩
    · cases hl
  rw [haddr] at hl ⊢
  have hbi : b < (st i).2.n := by
    unfold loadA at hl
    simp only at hl
    split at hl
    · rename_i hget; exact Hp.lt_of_get hget
    · cases hl
  have hilim : (st i).2.n ≤ lim := Nat.le_trans (D.len_le (i := i) (j := ops.size) (by omega) (Nat.le_refl _)) D.hlim
  obtain ⟨e, he⟩ : ∃ e, φ b = some e := by
    have hev := D.ev_same I hao hi hS hready x (by rw [hop]; simp [AOp.opds])
    cases x with
    | k u => exfalso; have := D.loadT_at hao; rw [loadT, hop] at this; cases this
    | t n =>
      have hr := I.rel.2 n
      have : tget TS n = .pointer (some ⟨b, o, none⟩) := by have := hev; simp only [ev] at this haddr; rw [this]; exact haddr
      rw [this] at hr
      obtain ⟨e, he, _⟩ := ptr_inv (E := E) hr
      exact ⟨e, he⟩
  have hsteps : ∀ k, k < ops.size → (i < k → S k) → (k < i → ¬ S k) → k ≠ i → b < (st k).2.n → ¬ writes al k ∨ (∀ (B B' : Hp), (st k).2 = B → (st (k + 1)).2 = B' → loadA B' (.pointer (some ⟨b, o, none⟩)) s = loadA B (.pointer (some ⟨b, o, none⟩)) s) := by
    intro k hk hk1 hk2 hki hbk
    by_cases hwk : writes al k
    · right
      have hno : ordered (befA (ops.toList.map edgesOf)) k i = false := by
        rw [Bool.eq_false_iff]
        intro hord
        rw [ordered, Bool.or_eq_true] at hord
        rcases hord with hb | hb
        · have hlt := D.lt_of_bit hi hb
          exact hk2 hlt (D.ahead_ready I hi hready hb)
        · have hlt := D.lt_of_bit hk hb
          exact hS (D.ahead I hk hb (hk1 hlt))
      have hp := (D.pair hk hi).1
      unfold pairOk at hp
      have e1 : (k == i) = false := by simpa using hki
      rw [e1, hno, hmi] at hp
      have hcase : (memOf al k = 3 ∧ heldApart al k i = true) ∨ heldC al k i = true := by
        rcases hwk with h | h | h | h <;> rw [h] at hp <;> simp at hp
        · exact .inl ⟨h, hp⟩
        · exact .inr hp
        · exact .inr hp
      obtain ⟨ok, aok, hok, haok⟩ := D.at_ hk
      intro B B' hB hB'
      subst hB; subst hB'
      rcases hcase with ⟨hk3, hheld⟩ | hheld
      case inr =>
        rcases D.step k aok haok with ⟨hw1, hap1, v1, hop1, _⟩ | ⟨_, heq, _⟩
        · unfold heldC at hheld
          have hca : capAt al k = aok.op.cap := by simp [capAt, haok]
          rw [hca] at hheld
          cases hcy : aok.op.cap with
          | none => rw [hcy] at hheld; simp at hheld
          | some y =>
            rw [hcy] at hheld
            have hbut := cap_only hcy hop1
            cases hx : x with
            | k u => rw [hx] at hop; simp [addrA, hao, hop] at hheld
            | t xt =>
              rw [hx] at hop haddr
              have ha2 : addrA al i = some (xt, s.getD 1) := by simp [addrA, hao, hop]
              rw [ha2] at hheld
              simp only [Bool.and_eq_true] at hheld
              obtain ⟨⟨hst1, hst2⟩, hany⟩ := hheld
              simp only [ev] at haddr
              have isT : ∀ {q : Opd} {n : Nat}, q.isT n = true → q = .t n := fun {q n} h => by
                cases q with
                | k v => cases h
                | t m => simp [Opd.isT] at h; rw [h]
              have hcap : b ∉ capsOf (tget (st k).1 y) := by
                rcases Nat.lt_or_ge k i with hlt | hge
                · rw [show Max.max k i = i by omega, hao] at hany
                  simp only [List.any_eq_true, Bool.and_eq_true] at hany
                  obtain ⟨p, hp1, hp2, hp3⟩ := hany
                  have e := D.tmp_same (i := k) (j := i) (d := y) (by omega) (by omega) fun q h1 h2 => stable_spec D.size hst1 q h1 (by omega)
                  have h1 := isT hp2
                  have h2 := isT hp3
                  have := apartA_caps (b := b) (o := o) (List.all_eq_true.1 hap p hp1) (by rw [h2]; exact haddr)
                  rw [h1] at this
                  simp only [ev] at this
                  rw [← e]; exact this
                · rw [show Max.max k i = k by omega, haok] at hany
                  simp only [List.any_eq_true, Bool.and_eq_true] at hany
                  obtain ⟨p, hp1, hp2, hp3⟩ := hany
                  have e := D.tmp_same (i := i) (j := k) (d := xt) (by omega) (by omega) fun q h1 h2 => stable_spec D.size hst2 q h1 (by omega)
                  have h1 := isT hp2
                  have h2 := isT hp3
                  have := apartA_caps (b := b) (o := o) (List.all_eq_true.1 hap1 p hp1) (by rw [h2]; exact e.trans haddr)
                  rw [h1] at this
                  exact this
              simp only [loadA, hbut b hbk hcap]
        · rw [heq]
      rcases D.step k aok haok with ⟨hw1, hap1, v1, hop1, _⟩ | ⟨_, heq, _⟩
      ·
        rw [mem_at haok] at hk3
        obtain ⟨y, z, n, hopk⟩ : ∃ y z n, aok.op = .store y z n := by
          cases hq : aok.op <;> rw [hq] at hk3 <;> simp only [AOp.mem] at hk3 <;> try (cases hk3; done)
          · exact ⟨_, _, _, rfl⟩
          · split at hk3 <;> cases hk3
        rw [hopk] at hop1
        obtain ⟨b1, o1, vs, haddr1, hvl, hwr⟩ := opA_store hop1
        refine store_apart hwr hvl ?_
        unfold heldApart at hheld
        have ha1 : ∀ y', aok.op = .store (.t y') z n → addrA al k = some (y', n) := fun y' h => by simp [addrA, haok, h]
        have ha2 : ∀ x', ao.op = .load (.t x') s → addrA al i = some (x', s.getD 1) := fun x' h => by simp [addrA, hao, h]
        cases hy : y with
        | k u => rw [hy] at hopk; simp [addrA, haok, hopk] at hheld
        | t yt =>
          cases hx : x with
          | k u => rw [hx] at hop; rw [ha1 yt (hy ▸ hopk)] at hheld; simp [addrA, hao, hop] at hheld
          | t xt =>
            rw [hx] at hop haddr
            rw [hy] at hopk haddr1
            rw [ha1 yt hopk, ha2 xt hop] at hheld
            simp only [Bool.and_eq_true] at hheld
            obtain ⟨⟨hst1, hst2⟩, hany⟩ := hheld
            simp only [ev] at haddr haddr1
            have conv : ∀ {p : Opd × Nat × Opd × Nat} {m : Nat}, tget (st m).1 yt = .pointer (some ⟨b1, o1, none⟩) → tget (st m).1 xt = .pointer (some ⟨b, o, none⟩) → apartA (st m).1 p = true →
                ((p.1.isT yt && p.2.1 == n && p.2.2.1.isT xt && p.2.2.2 == s.getD 1) || (p.1.isT xt && p.2.1 == s.getD 1 && p.2.2.1.isT yt && p.2.2.2 == n)) = true → b1 ≠ b ∨ o1 + n ≤ o ∨ o + s.getD 1 ≤ o1 := by
              intro p m h1 h2 h3 h4
              obtain ⟨p1, p2, p3, p4⟩ := p
              have isT : ∀ {q : Opd} {n : Nat}, q.isT n = true → q = .t n := fun {q n} h => by
                cases q with
                | k v => cases h
                | t m => simp [Opd.isT] at h; rw [h]
              rw [Bool.or_eq_true] at h4
              simp only [Bool.and_eq_true, beq_iff_eq] at h4
              rcases h4 with ⟨⟨⟨e1, e2⟩, e3⟩, e4⟩ | ⟨⟨⟨e1, e2⟩, e3⟩, e4⟩
              · obtain rfl := isT e1; obtain rfl := isT e3
                simp only [apartA, ev, h1, h2, decide_eq_true_eq] at h3
                omega
              · obtain rfl := isT e1; obtain rfl := isT e3
                simp only [apartA, ev, h1, h2, decide_eq_true_eq] at h3
                omega
            rcases Nat.lt_or_ge k i with hlt | hge
            ·
              rw [show Max.max k i = i by omega, hao] at hany
              simp only [List.any_eq_true] at hany
              obtain ⟨p, hp1, hp2⟩ := hany
              have e := D.tmp_same (i := k) (j := i) (d := yt) (by omega) (by omega) fun q h1 h2 => stable_spec D.size hst1 q h1 (by omega)
              exact conv (m := i) (by rw [e]; exact haddr1) haddr (List.all_eq_true.1 hap p hp1) hp2
            · rw [show Max.max k i = k by omega, haok] at hany
              simp only [List.any_eq_true] at hany
              obtain ⟨p, hp1, hp2⟩ := hany
              have e := D.tmp_same (i := i) (j := k) (d := xt) (by omega) (by omega) fun q h1 h2 => stable_spec D.size hst2 q h1 (by omega)
              exact conv (m := k) haddr1 (by rw [e]; exact haddr) (List.all_eq_true.1 hap1 p hp1) hp2
      · rw [heq]
    · exact .inl hwk
  have htl := I.tle
  rcases Nat.lt_or_ge b (st t).2.n with hbt | hbt
  ·
    refine ⟨(st t).2, I.heap.rel (fun _ _ h => h) (fun x _ _ => Nat.lt_or_ge x _), ?_⟩
    rcases Nat.lt_or_ge t i with hti | hit
    ·
      rw [← hl]
      symm
      refine D.load_same (i := 0) (j := 0) (p := t) (q := i) (by omega) (by omega) hbt fun k h1 h2 => ?_
      by_cases hwk : writes al k
      · refine hsteps k (by omega) (fun h => by omega) (fun _ => I.behind k h1 (by omega) hwk) (by omega) (Nat.lt_of_lt_of_le hbt (D.len_le h1 (by omega)))
      · exact .inl hwk
    · rw [← hl]
      refine D.load_same (i := 0) (j := 0) (p := i) (q := t) hit I.tle hbi fun k h1 h2 => ?_
      by_cases hwk : writes al k
      · have hne : k ≠ i := fun h => by subst h; rcases hwk with h | h | h | h <;> omega
        refine hsteps k (by omega) (fun _ => I.before k h2 hwk) (fun h => by omega) hne (Nat.lt_of_lt_of_le hbi (D.len_le h1 (by omega)))
      · exact .inl hwk
  ·
    obtain ⟨k, c, hSk, htk, hk, _, hbk, hget, hrel, huniq⟩ := I.heap.far b e he hbt (by omega)
    have hki : k + 1 ≤ i := by
      rcases Nat.lt_or_ge k i with h | h
      · omega
      · have := D.len_le (i := i) (j := k) h (by omega); omega
    have hsame := D.load_same (i := 0) (j := 0) (s := s) (o := o) (p := k + 1) (q := i) hki (by omega) (Hp.lt_of_get hget) fun j h1 h2 => by
      by_cases hwj : writes al j
      · exact hsteps j (by omega) (fun h => by omega) (fun _ => I.behind j (by omega) (by omega) hwj) (by omega) (Nat.lt_of_lt_of_le (Hp.lt_of_get hget) (D.len_le h1 (by omega)))
      · exact .inl hwj
    have hB : ∀ y d, (((st t).2.re b).push c).get y = some d → (y = b ∧ d = c) ∨ (st t).2.get y = some d := by
      intro y d hy
      rw [Hp.get_push, Hp.get_re] at hy
      have e : ((st t).2.re b).n = b := rfl
      rw [e] at hy
      split at hy
      · rename_i h; cases hy; exact .inl ⟨h, rfl⟩
      · split at hy
        · exact .inr hy
        · cases hy
    refine ⟨((st t).2.re b).push c, ⟨fun x _ _ => Nat.lt_or_ge x _, I.heap.wf, ?_, ?_⟩, ?_⟩
    · intro y d ey hd hy
      rcases hB y d hd with ⟨rfl, rfl⟩ | h
      · rw [he] at hy; cases hy; exact hrel
      · exact I.heap.blk y d ey h hy
    · intro y z d d' ey ez hyz hd hd' hy hz hrw
      rcases hB y d hd with ⟨rfl, rfl⟩ | h
      · rw [he] at hy; cases hy
        exact fun hh => hyz (huniq z ez hz hh.symm).symm
      · rcases hB z d' hd' with ⟨rfl, rfl⟩ | h'
        · rw [he] at hz; cases hz
          exact fun hh => hyz (huniq y ey hy hh)
        · exact I.heap.sep y z d d' ey ez hyz h h' hy hz hrw
    · rw [hsame] at hl
      have : (((st t).2.re b).push c).get b = (st (k + 1)).2.get b := by rw [hget, Hp.get_push]; exact if_pos rfl
      simp only [loadA, this]
      exact hl
end Draw
end
end Go.Ab
namespace Go.Ab
section
variable {E : Env} {nt lim : Nat} {cv : CallFn} {g : Nat} {ops : Array Oper} {al : List AOper} {st : Nat → List Value × Hp}
theorem guardA_not6 {o : AOp} {A : Hp} {g : Nat} (h : o.mem ≠ 6) : guardA o A g = g := by
  unfold guardA
  split
  · exact absurd rfl h
  · rfl
theorem opA_made {o : AOp} (hm : o.mem = 2) {cv : CallFn} {g : Nat} {T : List Value} {A A' : Hp} {v : Value} (h : opA o cv g T A = some (v, A')) : ∃ b, A' = A.push b ∧ ∀ g' B, B.n = A.n → opA o cv g' T B = some (v, B.push b) := by
  cases o <;> simp only [AOp.mem] at hm <;> try (cases hm; done)
  case call f l ro => cases ro <;> simp at hm
  case alloc z => cases h; exact ⟨_, rfl, fun _ B hB => by simp only [opA, allocA, hB]⟩
  case box x => cases h; exact ⟨_, rfl, fun _ B hB => by simp only [opA, allocA, hB]⟩
  case slit n e z ps =>
    simp only [opA, slitA] at h
    split at h
    · rename_i cs hcs
      cases h
      exact ⟨_, rfl, fun _ B hB => by simp only [opA, slitA, hcs, hB]⟩
    · cases h
  case makeS l c e b z =>
    simp only [opA, makeSA] at h
    split at h
    · rename_i n m h1 h2
      split at h
      · rename_i h3
        cases h
        exact ⟨_, rfl, fun _ B hB => by simp only [opA, makeSA, h1, h2, if_pos h3, hB]⟩
      · cases h
    · cases h
  case makeM => cases h; exact ⟨_, rfl, fun _ B hB => by simp only [opA, hB]⟩
  case toBytes x =>
    simp only [opA, toBytesA] at h
    split at h
    · rename_i hx
      cases h
      exact ⟨_, rfl, fun _ B hB => by simp only [opA, toBytesA, hx, hB]⟩
    · cases h
namespace Draw
variable (D : Draw E nt lim cv g ops al st)
variable {φ0 : NM} {w0 : World} {ds : List Deferred} {S : Nat → Prop} {φ : NM} {a : Act} {w : World} {t : Nat} {TS : List Value}
include D
theorem inv_next (I : Inv E nt lim g ops al st φ0 w0 ds S φ a w t TS) {i : Nat} {o : Oper} {ao : AOper} {v v' : Value} {φ' : NM} {w' : World} {t' : Nat} (ho : ops[i]? = some o) (hao : al[i]? = some ao) (hi : i < ops.size)
    (hready : ∀ e ∈ (ops.toList.map edgesOf).getD i [], S e) (hv : (st (i + 1)).1 = putA ao.dst (st i).1 v) (hrv : RelV E.lab φ' v v')
    (htle : t' ≤ ops.size) (hbef : ∀ j, j < t' → writes al j → S j ∨ j = i) (hbeh : ∀ j, t' ≤ j → j < ops.size → writes al j → ¬ (S j ∨ j = i)) (htw : t' < ops.size → writes al t')
    (hext : Ext φ φ') (hnew : ∀ x e, φ' x = some e → φ x = some e ∨ ((st i).2.n ≤ x ∧ x < (st (i + 1)).2.n))
    (hheap : Hold E lim ops al st (fun k => S k ∨ k = i) φ' w' t') (hsize : w.heap.size ≤ w'.heap.size) (hframe : ∀ b, b < w0.heap.size → (∀ x e, φ0 x = some e → e.blk = b → x < g ∨ lim ≤ x ∨ roAt (st 0).2 x) → w'.heap[b]? = w.heap[b]?)
    (hfresh : ∀ x e, φ' x = some e → φ x = none → w.heap.size ≤ e.blk ∨ ∃ y ey, φ y = some ey ∧ g ≤ y ∧ y < lim ∧ ¬ roAt (st t).2 y ∧ ey.blk = e.blk)
    (hro : ∀ x, roAt (st t).2 x → roAt (st t').2 x) (henv : w'.os = w.os ∧ w'.output = w.output ∧ w'.tape = w.tape) :
    Inv E nt lim g ops al st φ0 w0 ds (fun k => S k ∨ k = i) φ' (a.put o.dst v') w' t' (putA ao.dst TS v) := by
  obtain ⟨hd1, hd2⟩ := D.put_done I hao hi hv
  obtain ⟨rof, _, _, hds, hdst⟩ := D.formed.2 i o ao ho hao
  refine ⟨htle, hbef, hbeh, htw, ?_, ?_, fun k d hk hd => hd1 k d hk hd, fun d hd => hd2 d hd, ?_, ?_, I.ext.trans hext, ?_, hheap, Nat.le_trans I.size hsize, ?_, ?_, ?_, ?_⟩
  · rintro j (hj | rfl)
    · exact I.bound j hj
    · exact hi
  · rintro j hj (hs | rfl) e he
    · exact .inl (I.closed j hj hs e he)
    · exact .inl (hready e he)
  · rw [hdst]; exact (I.rel.mono hext).put hds hrv
  · rw [← I.defers]; cases o.dst <;> rfl
  · intro x e hx
    rcases hnew x e hx with h | h
    · rcases I.new x e h with h | ⟨k, h1, h2⟩
      · exact .inl h
      · exact .inr ⟨k, .inl h1, h2⟩
    · exact .inr ⟨i, .inr rfl, h⟩
  · intro b hb H
    rw [hframe b hb H]; exact I.frame b hb H
  · intro x e hx hx0
    cases hxφ : φ x with
    | some e1 =>
      have := hext x e1 hxφ
      rw [hx] at this; cases this
      exact I.fresh x e hxφ hx0
    | none =>
      rcases hfresh x e hx hxφ with h | ⟨y, ey, hy, hlo, hlim, hnro, hb⟩
      · exact .inl (Nat.le_trans I.size h)
      · cases hy0 : φ0 y with
        | some e0 =>
          have := I.ext y e0 hy0
          rw [hy] at this; cases this
          exact .inr ⟨y, ey, hy0, hlo, hlim, fun hr => hnro (I.ro y hr), hb⟩
        | none =>
          rcases I.fresh y ey hy hy0 with h | ⟨z, ez, hz, hloz, hlimz, hnroz, hbz⟩
          · exact .inl (hb ▸ h)
          · exact .inr ⟨z, ez, hz, hloz, hlimz, hnroz, hbz.trans hb⟩
  · intro x hr; exact hro x (I.ro x hr)
  · exact ⟨henv.1.trans I.env.1, henv.2.1.trans I.env.2.1, henv.2.2.trans I.env.2.2⟩
theorem known_out (hdom0 : ∀ x e, φ0 x = some e → x < (st 0).2.n ∨ lim ≤ x) (I : Inv E nt lim g ops al st φ0 w0 ds S φ a w t TS) {i : Nat} (hi : i < ops.size) (hS : ¬ S i) :
    ∀ x e, φ x = some e → x < (st i).2.n ∨ (st (i + 1)).2.n ≤ x := by
  have hlim := D.hlim
  have hl0 := D.len_le (i := 0) (j := i) (by omega) (by omega)
  have hl1 := D.len_le (i := i + 1) (j := ops.size) (by omega) (by omega)
  intro x e hx
  rcases I.new x e hx with h | ⟨k, hk1, hk2, hk3⟩
  · rcases hdom0 x e h with h | h <;> omega
  · have hne : k ≠ i := fun h => hS (h ▸ hk1)
    rcases Nat.lt_or_ge k i with hlt | hge
    · have := D.len_le (i := k + 1) (j := i) (by omega) (by omega); omega
    · have := D.len_le (i := i + 1) (j := k) (by omega) (by have := I.bound k hk1; omega); omega
theorem caps_known (I : Inv E nt lim g ops al st φ0 w0 ds S φ a w t TS) {k y : Nat} {ok : AOper} (hok : al[k]? = some ok) (hk : k < ops.size) (hS : S k) (hop : ok.op.cap = some y) (hc : capOk al k = true) :
    ∀ x ∈ capsOf (tget (st k).1 y), ∃ e, φ x = some e := by
  unfold capOk at hc
  have hca : capAt al k = some y := by simp [capAt, hok, hop]
  rw [hca] at hc
  have hlook : y ∈ ok.looks := by
    unfold AOper.looks
    refine List.mem_append_left _ (List.mem_filterMap.2 ⟨.t y, ?_, rfl⟩)
    revert hop
    generalize ok.op = op
    intro hop
    cases op with
    | callC c f l => cases c with
      | t z => cases hop; simp [AOp.opds]
      | k u => cases hop
    | append f x e b => cases f with
      | t z => cases hop; simp [AOp.opds]
      | k u => cases hop
    | copy f x e => cases f with
      | t z => cases hop; simp [AOp.opds]
      | k u => cases hop
    | _ => cases hop
  simp only at hc
  · have hst := stable_spec D.size hc
    have hsame : tget TS y = tget (st k).1 y := by
      by_cases hex : ∃ j, dstAt al j y
      · obtain ⟨j, hj⟩ := hex
        have hjl := D.dst_lt hj
        have hjk : j < k := by
          rcases Nat.lt_or_ge j k with h | h
          · exact h
          · exact absurd hj (hst j h hjl)
        have hpair := (D.pair hjl hk).2
        have hj' := hj
        obtain ⟨oj, hoj, hdj⟩ := hj
        unfold dstOk at hpair
        rw [hoj, hok] at hpair
        simp only [hdj, Bool.or_eq_true, beq_iff_eq, show j ≠ k by omega, false_or, Bool.and_eq_true, Bool.not_eq_true', bne_iff_ne, ne_eq] at hpair
        have hord : ordered (befA (ops.toList.map edgesOf)) j k = true := by
          rcases hpair.2 with h | h
          · rw [List.contains_eq_mem] at h; simp [hlook] at h
          · exact h
        unfold ordered at hord
        rw [Bool.or_eq_true] at hord
        rcases hord with h | h
        · rw [I.done j y (D.ahead I hk h hS) hj']
          exact D.tmp_same (by omega) (Nat.le_refl _) fun q h1 _ hq => by have := D.dst_unique hq hj'; omega
        · have := D.lt_of_bit hjl h; omega
      · rw [I.undone y fun q _ hq => hex ⟨q, hq⟩]
        exact (D.tmp_same (Nat.zero_le _) (by omega) fun q _ _ hq => hex ⟨q, hq⟩).symm
    intro x hx
    have hr := I.rel.2 y
    rw [hsame] at hr
    cases hF : tget (st k).1 y with
    | func fn first captured =>
      rw [hF] at hx hr
      cases fn with
      | func h =>
        obtain ⟨f', first', captured', _, _, r1, r2⟩ := func_inv hr
        have r := r1.append r2
        simp only [capsOf, List.mem_filterMap] at hx
        obtain ⟨u, hu, hux⟩ := hx
        split at hux
        · rename_i b o el
          cases hux
          obtain ⟨n, hn⟩ := List.getElem?_of_mem hu
          have hnl : n < (first'.toList ++ captured'.toList).length := by rw [← r.1]; exact (List.getElem?_eq_some_iff.1 hn).1
          have := r.2 n _ _ hn (List.getElem?_eq_getElem hnl)
          generalize (first'.toList ++ captured'.toList)[n] = u' at this
          cases this with
          | ptr h => exact ⟨_, h⟩
        · cases hux
      | _ => simp [capsOf] at hx
    | slice p n c =>
      rw [hF] at hx hr
      cases p with
      | none => simp [capsOf] at hx
      | some a =>
        obtain ⟨b, o, sp⟩ := a
        simp [capsOf] at hx
        subst hx
        generalize a.tmps.getD y undef = u at hr
        cases hr with
        | slice h _ _ _ => exact ⟨_, h⟩
    | _ => rw [hF] at hx; simp [capsOf] at hx
theorem made_same (hdom0 : ∀ x e, φ0 x = some e → x < (st 0).2.n ∨ lim ≤ x) (I : Inv E nt lim g ops al st φ0 w0 ds S φ a w t TS) {i : Nat} (hi : i < ops.size) (hS : ¬ S i) (hready : ∀ e ∈ (ops.toList.map edgesOf).getD i [], S e) (hm : memOf al i = 2) :
    ∀ k, i + 1 ≤ k → k ≤ t → ∀ x, (st i).2.n ≤ x → x < (st (i + 1)).2.n → (st k).2.get x = (st (i + 1)).2.get x := by
  have hout := D.known_out hdom0 I hi hS
  have htl := I.tle
  intro k
  induction k with
  | zero => intro h; omega
  | succ k ih =>
    intro h1 h2 x hx1 hx2
    by_cases hk : k = i
    · subst hk; rfl
    · rw [← ih (by omega) (by omega) x hx1 hx2]
      have hxk : x < (st k).2.n := Nat.lt_of_lt_of_le hx2 (D.len_le (by omega) (by omega))
      by_cases hw : writes al k
      · have hSk := I.before k (by omega) hw
        obtain ⟨o, ao, _, hao⟩ := D.at_ (i := k) (by omega)
        have hno : ordered (befA (ops.toList.map edgesOf)) k i = false := by
          rw [Bool.eq_false_iff]
          intro hord
          rw [ordered, Bool.or_eq_true] at hord
          rcases hord with hb | hb
          · have := D.lt_of_bit hi hb; omega
          · exact hS (D.ahead I (by omega) hb hSk)
        have hp := (D.pair (i := k) (j := i) (by omega) hi).1
        unfold pairOk at hp
        have e1 : (k == i) = false := by simpa using hk
        rw [e1, hno, hm] at hp
        have hcap : capOk al k = true := by
          rcases hw with h | h | h | h <;> rw [h] at hp <;> simp at hp
          · exact hp
          · exact hp
        rcases D.step k ao hao with ⟨_, _, v1, hop1, _⟩ | ⟨_, heq, _⟩
        · obtain ⟨y, hy⟩ : ∃ y, ao.op.cap = some y := by
            have h := hcap
            unfold capOk capAt at h
            rw [hao] at h
            cases hq : ao.op.cap with
            | none => simp [hq] at h
            | some y => exact ⟨y, rfl⟩
          have hkn := D.caps_known I hao (by omega) hSk hy hcap
          refine (cap_only hy hop1) x hxk fun hx => ?_
          obtain ⟨e, he⟩ := hkn x hx
          have := hout x e he
          omega
        · rw [heq]
      · exact D.still_step (by omega) hw x hxk
theorem hold_quiet (I : Inv E nt lim g ops al st φ0 w0 ds S φ a w t TS) {i : Nat} {φ' : NM} {w' : World} (hext : Ext φ φ') (hall : ∀ b, b < w.heap.size → w'.heap[b]? = w.heap[b]?) (hwf : ∀ x e, φ' x = some e → e.blk < w'.heap.size)
    (hnew : ∀ x e, φ' x = some e → φ x = none → w.heap.size ≤ e.blk ∧ (∀ b, (st t).2.get x = some b → RelB E φ' w' b e) ∧
      ((st t).2.n ≤ x → t ≤ i ∧ i < ops.size ∧ memOf al i = 2 ∧ x = (st i).2.n ∧ ∃ b, (st (i + 1)).2.get x = some b ∧ RelB E φ' w' b e ∧ ∀ y ey, φ' y = some ey → φ y = none → y = x))
    (hsep : ∀ x y b c ex ey, x ≠ y → (st t).2.get x = some b → (st t).2.get y = some c → φ' x = some ex → φ' y = some ey → φ x = none → φ y = none → b.own = true → ex.blk ≠ ey.blk) :
    Hold E lim ops al st (fun k => S k ∨ k = i) φ' w' t := by
  have old : ∀ {x e e1}, φ x = some e1 → φ' x = some e → e1 = e := fun h1 h2 => by
    have := hext _ _ h1; rw [h2] at this; cases this; rfl
  refine ⟨hwf, ?_, ?_, ?_⟩
  · intro x b e hb hx
    cases hφ : φ x with
    | some e1 =>
      obtain rfl := old hφ hx
      exact (I.heap.blk x b e1 hb hφ).mono hext (hall _ (I.heap.wf x e1 hφ))
    | none => exact (hnew x e hx hφ).2.1 b hb
  · intro x y b c ex ey hxy hb hc hx hy hrw
    cases hφx : φ x with
    | some e1 =>
      obtain rfl := old hφx hx
      cases hφy : φ y with
      | some e2 =>
        obtain rfl := old hφy hy
        exact I.heap.sep x y b c e1 e2 hxy hb hc hφx hφy hrw
      | none =>
        have := (hnew y ey hy hφy).1
        have := I.heap.wf x e1 hφx
        omega
    | none =>
      cases hφy : φ y with
      | some e2 =>
        obtain rfl := old hφy hy
        have := (hnew x ex hx hφx).1
        have := I.heap.wf y e2 hφy
        omega
      | none => exact hsep x y b c ex ey hxy hb hc hx hy hφx hφy hrw
  · intro x e hx hge hlt
    cases hφ : φ x with
    | some e1 =>
      obtain rfl := old hφ hx
      obtain ⟨k, b, h1, h2, h3, h4, h5, h6, h7, h8⟩ := I.heap.far x e1 hφ hge hlt
      refine ⟨k, b, .inl h1, h2, h3, h4, h5, h6, h7.mono hext (hall _ (I.heap.wf x e1 hφ)), fun y ey hy hb => ?_⟩
      cases hφy : φ y with
      | some e2 => obtain rfl := old hφy hy; exact h8 y e2 hφy hb
      | none =>
        have := (hnew y ey hy hφy).1
        have := I.heap.wf x e1 hφ
        omega
    | none =>
      obtain ⟨h0, _, h⟩ := hnew x e hx hφ
      obtain ⟨h2, h3, h4, h5, b, h6, h7, h8⟩ := h hge
      refine ⟨i, b, .inr rfl, h2, h3, h4, h5, h6, h7, fun y ey hy hb => ?_⟩
      cases hφy : φ y with
      | some e2 =>
        obtain rfl := old hφy hy
        have := I.heap.wf y e2 hφy
        omega
      | none => exact h8 y ey hy hφy
theorem hold_write (I : Inv E nt lim g ops al st φ0 w0 ds S φ a w t TS) {i p t' : Nat} {φ' : NM} {w' : World} (hp : Post E (st p).2.n φ (st t).2 w g φ' (st p).2 w') (hpt : p ≤ t') (htl : t' ≤ ops.size)
    (hw : ∀ k, p ≤ k → k < t' → ¬ writes al k) : Hold E lim ops al st (fun k => S k ∨ k = i) φ' w' t' := by
  have hchain := D.still hpt htl hw
  have hlen := D.len_le hpt htl
  have hlen2 := hp.len
  have old : ∀ {x e}, φ' x = some e → (st p).2.n ≤ x → φ x = some e := fun {x e} h1 h2 => by
    rcases hp.dom x e h1 with h | h
    · exact h
    · omega
  have farx : ∀ {x e}, φ x = some e → (st p).2.n ≤ x → x < lim → ∃ k b, S k ∧ p ≤ k ∧ k < ops.size ∧ memOf al k = 2 ∧ x = (st k).2.n ∧ (st (k + 1)).2.get x = some b ∧ RelB E φ' w' b e ∧ ∀ y ey, φ' y = some ey → ey.blk = e.blk → y = x := by
    intro x e hx hge hlt
    obtain ⟨k, b, h1, h2, h3, h4, h5, h6, h7, h8⟩ := I.heap.far x e hx (by omega) hlt
    have hpk : p ≤ k := by
      rcases Nat.lt_or_ge k p with h | h
      · have := D.len_le (i := k + 1) (j := p) (by omega) (by omega)
        have := Hp.lt_of_get h6
        omega
      · exact h
    have hsame : w'.heap[e.blk]? = w.heap[e.blk]? := hp.frame _ (I.heap.wf x e hx) fun y ey hy hb => by
      rw [h8 y ey hy hb]; exact .inr (.inl hge)
    refine ⟨k, b, h1, hpk, h3, h4, h5, h6, h7.mono hp.ext hsame, fun y ey hy hb => ?_⟩
    cases hφy : φ y with
    | some e2 =>
      have := hp.ext y e2 hφy
      rw [hy] at this; cases this
      exact h8 y ey hφy hb
    | none =>
      exfalso
      rcases hp.fresh y ey hy hφy with h | ⟨z, ez, hz, _, hzl, _, hzb⟩
      · have := I.heap.wf x e hx; omega
      · have := h8 z ez hz (hzb.trans hb); omega
  have hlim' : (st t').2.n ≤ lim := Nat.le_trans (D.len_le htl (Nat.le_refl _)) D.hlim
  have near : ∀ {x b e}, (st t').2.get x = some b → φ' x = some e → (x < (st p).2.n ∧ (st p).2.get x = some b) ∨ ((st p).2.n ≤ x ∧ φ x = some e ∧ RelB E φ' w' b e ∧ ∀ y ey, φ' y = some ey → ey.blk = e.blk → y = x) := by
    intro x b e hb hx
    rcases Nat.lt_or_ge x (st p).2.n with h | h
    · exact .inl ⟨h, by rw [← hchain x h]; exact hb⟩
    · have hxt := Hp.lt_of_get hb
      have hφ := old hx h
      obtain ⟨k, c, h1, h2, h3, h4, h5, h6, h7, h8⟩ := farx hφ h (by omega)
      have hkt : k + 1 ≤ t' := by
        rcases Nat.lt_or_ge k t' with h | h
        · omega
        · have := D.len_le (i := t') (j := k) h (by omega); omega
      have := D.still (i := k + 1) (j := t') hkt htl (fun q hq1 hq2 => hw q (by omega) hq2) x (Hp.lt_of_get h6)
      rw [hb, h6] at this; cases this
      exact .inr ⟨h, hφ, h7, h8⟩
  refine ⟨hp.rel.wf, ?_, ?_, ?_⟩
  · intro x b e hb hx
    rcases near hb hx with ⟨_, h⟩ | ⟨_, _, h, _⟩
    · exact hp.rel.blk x b e h hx
    · exact h
  · intro x y b c ex ey hxy hb hc hx hy hrw
    rcases near hb hx with ⟨_, h⟩ | ⟨_, _, _, h⟩
    · rcases near hc hy with ⟨_, h'⟩ | ⟨_, _, _, h'⟩
      · exact hp.rel.sep x y b c ex ey hxy h h' hx hy hrw
      · exact fun hh => hxy (h' x ex hx hh)
    · exact fun hh => hxy (h y ey hy hh.symm).symm
  · intro x e hx hge hlt
    obtain ⟨k, b, h1, h2, h3, h4, h5, h6, h7, h8⟩ := farx (old hx (by omega)) (by omega) hlt
    refine ⟨k, b, .inl h1, ?_, h3, h4, h5, h6, h7, h8⟩
    rcases Nat.lt_or_ge k t' with h | h
    · have := D.len_le (i := k + 1) (j := t') (by omega) htl
      have := Hp.lt_of_get h6
      omega
    · exact h
theorem step_ok (hdom0 : ∀ x e, φ0 x = some e → x < (st 0).2.n ∨ lim ≤ x) (I : Inv E nt lim g ops al st φ0 w0 ds S φ a w t TS) {i : Nat} (hi : i < ops.size) (hS : ¬ S i) (hready : ∀ e ∈ (ops.toList.map edgesOf).getD i [], S e)
    (ro : Option Nat) {K : Act → World → Prop} {Q : Exit → Act → World → Prop} (hK : ∀ φ' a' w' t' TS', Inv E nt lim g ops al st φ0 w0 ds (fun k => S k ∨ k = i) φ' a' w' t' TS' → K a' w') :
    wpOpIn (fence ro) 0 E.P ops Q i K a w := by
  obtain ⟨o, ao, ho, hao⟩ := D.at_ hi
  obtain ⟨rof, hop, hgd, hds, hdst⟩ := D.formed.2 i o ao ho hao
  have hw := wanted_eq (ops := ops) (o := o) hgd I.rel
  have hws := D.wanted_same I hao hi hS hready
  have hev := D.ev_same I hao hi hS hready
  have hlenle : ∀ j, j ≤ ops.size → (st j).2.n ≤ lim := fun j hj => Nat.le_trans (D.len_le hj (Nat.le_refl _)) D.hlim
  have hout := D.known_out hdom0 I hi hS
  have htle := I.tle
  have frame0 : ∀ b, b < w0.heap.size → (∀ x e, φ0 x = some e → e.blk = b → x < g ∨ lim ≤ x ∨ roAt (st 0).2 x) → ∀ x e, φ x = some e → e.blk = b → x < g ∨ lim ≤ x ∨ roAt (st t).2 x := by
    intro b hb H x e hx he
    cases hx0 : φ0 x with
    | some e0 =>
      have := I.ext x e0 hx0
      rw [hx] at this; cases this
      exact (H x e hx0 he).imp id (Or.imp id (I.ro x))
    | none =>
      rcases I.fresh x e hx hx0 with h | ⟨y, ey, hy, hlo, hlim, hnro, hb'⟩
      · omega
      · rcases H y ey hy (hb'.trans he) with h | h | h
        · omega
        · omega
        · exact absurd h hnro
  unfold wpOpIn
  simp only [ho, hw, hws]
  rcases D.step i ao hao with ⟨h1, hap, v, h2, h3⟩ | ⟨h1, h2, h3⟩
  ·
    rw [if_pos h1]
    by_cases hwr : writes al i
    ·
      have hit := D.writer_is I hi hS hready hwr
      subst hit
      have hop' : opA ao.op cv g TS (st i).2 = some (v, (st (i + 1)).2) := by rw [opA_congr hev]; exact h2
      obtain ⟨t', ht1, ht2, ht3, ht4⟩ := nextWriter (al := al) (n := ops.size) (p := i + 1) (by omega)
      have hl1 := hlenle (i + 1) (by omega)
      have hRi : Rel E (st (i + 1)).2.n φ (st i).2 w := I.heap.rel (fun _ _ h => h) hout
      refine oper_sound (Nat.le_refl _) D.call hop I.rel hRi hop' ro _ _ fun v' w' φ' hv hp => ?_
      rw [guardA_not6 (by have := mem_at hao; unfold writes at hwr; omega)] at hp
      have hchain := D.still ht1 ht2 ht3
      refine hK φ' _ w' t' _ (D.inv_next I ho hao hi hready h3 hv ht2 ?_ ?_ ht4 hp.ext hp.dom (D.hold_write I hp ht1 ht2 ht3) hp.size ?_ ?_ ?_ hp.env)
      · intro j hj hwj
        rcases Nat.lt_trichotomy j i with h | h | h
        · exact .inl (I.before j h hwj)
        · exact .inr h
        · exact absurd hwj (ht3 j (by omega) hj)
      · rintro j hj hjl hwj (h | h)
        · exact I.behind j (by omega) hjl hwj h
        · omega
      · exact fun b hb H => hp.frame b (Nat.lt_of_lt_of_le hb I.size) fun x e hx he => (frame0 b hb H x e hx he).imp id (Or.imp (fun h => Nat.le_trans hl1 h) id)
      · intro x e hx hn
        rcases hp.fresh x e hx hn with h | ⟨y, ey, hy, k1, k2, k3, k4⟩
        · exact .inl h
        · exact .inr ⟨y, ey, hy, k1, Nat.lt_of_lt_of_le k2 hl1, k3, k4⟩
      · rintro x hr
        obtain ⟨cs, hcs, hc1⟩ := hp.ro x hr
        exact ⟨cs, by rw [hchain x (Hp.lt_of_get hcs)]; exact hcs, hc1⟩
    · have hmem := mem_at hao
      have hm7 : ao.op.mem = 0 ∨ ao.op.mem = 1 ∨ ao.op.mem = 2 ∨ ao.op.mem = 6 := by
        have hle : ao.op.mem ≤ 7 := by cases ao.op <;> simp only [AOp.mem] <;> try omega
                                       split <;> omega
        unfold writes at hwr; omega
      have hbef : ∀ j, j < t → writes al j → S j ∨ j = i := fun j h1 h2 => .inl (I.before j h1 h2)
      have hbeh : ∀ j, t ≤ j → j < ops.size → writes al j → ¬ (S j ∨ j = i) := by
        rintro j h1 h2 h3 (h | h)
        · exact I.behind j h1 h2 h3 h
        · exact hwr (h ▸ h3)
      by_cases hlook : ao.op.mem = 0 ∨ ao.op.mem = 1
      ·
        obtain ⟨B, hRB, hopB⟩ : ∃ B : Hp, Rel E B.n φ B w ∧ opA ao.op cv B.n TS B = some (v, B) := by
          rcases hlook with h | h
          · refine ⟨(st t).2, I.heap.rel (fun _ _ h => h) (fun x _ _ => Nat.lt_or_ge x _), ?_⟩
            rw [opA_congr hev]
            exact (opA_mem0 h h2).2 _ _
          · cases hq : ao.op <;> rw [hq] at h <;> simp only [AOp.mem] at h <;> try (cases h; done)
            · rename_i x s
              have h2' := h2
              rw [hq] at h2'
              obtain ⟨B, hR, hl⟩ := D.load_now I hao hi hS hready hq h1 hap (opA_load h2').2
              refine ⟨B, hR, ?_⟩
              rw [← hq, opA_congr hev, hq]
              simp only [opA, hl, pureV, Option.map_some]
            · split at h <;> cases h
        refine oper_sound (Nat.le_refl _) D.call hop I.rel hRB hopB ro _ _ fun v' w' φ' hv hp => ?_
        rw [guardA_not6 (by omega)] at hp
        have hdom : ∀ x e, φ' x = some e → φ x = some e := fun x e hx => by
          rcases hp.dom x e hx with h | h
          · exact h
          · omega
        have hall : ∀ b, b < w.heap.size → w'.heap[b]? = w.heap[b]? := fun b hb => hp.frame b hb fun x e _ _ => (Nat.lt_or_ge x B.n).imp id .inl
        have hnone : ∀ {x e}, φ' x = some e → φ x = none → False := fun hx hn => by have := hdom _ _ hx; rw [hn] at this; cases this
        exact hK φ' _ w' t _ (D.inv_next I ho hao hi hready h3 hv I.tle hbef hbeh I.tw hp.ext (fun x e hx => .inl (hdom x e hx))
          (D.hold_quiet I hp.ext hall hp.rel.wf (fun x e hx hn => (hnone hx hn).elim) (fun x y b c ex ey _ _ _ hx _ hn => (hnone hx hn).elim)) hp.size
          (fun b hb _ => hall b (Nat.lt_of_lt_of_le hb I.size)) (fun x e hx hn => (hnone hx hn).elim) (fun _ h => h) hp.env)
      ·
        obtain ⟨B, B', hBn, hBn', hBget, hopB, hnear, hfar⟩ : ∃ B B' : Hp, B.n = (st i).2.n ∧ B'.n = (st (i + 1)).2.n ∧ (∀ y b, B.get y = some b → (st t).2.get y = some b) ∧ opA ao.op cv B.n TS B = some (v, B') ∧
            (∀ x, (st i).2.n ≤ x → x < (st (i + 1)).2.n → ∀ b, (st t).2.get x = some b → B'.get x = some b) ∧
            (∀ x, (st i).2.n ≤ x → x < (st (i + 1)).2.n → (st t).2.n ≤ x → t ≤ i ∧ memOf al i = 2 ∧ x = (st i).2.n ∧ (st (i + 1)).2.n = (st i).2.n + 1 ∧ ∃ b, (st (i + 1)).2.get x = some b ∧ B'.get x = some b) := by
          have hm26 : memOf al i = 2 ∨ memOf al i = 6 := by omega
          rcases hm26 with hm | hm
          · obtain ⟨b, hb, hmk⟩ := opA_made (by omega) h2
            refine ⟨(st t).2.re (st i).2.n, ((st t).2.re (st i).2.n).push b, rfl, ?_, ?_, ?_, ?_, ?_⟩
            · rw [hb]; rfl
            · intro y c hy
              rw [Hp.get_re] at hy
              split at hy
              · exact hy
              · cases hy
            · rw [opA_congr hev]; exact hmk _ _ rfl
            · intro x hx1 hx2 c hc
              rw [hb, Hp.n_push] at hx2
              have hxi : x = (st i).2.n := by omega
              have hit : i + 1 ≤ t := by
                rcases Nat.lt_or_ge i t with h | h
                · exact h
                · have := D.len_le h (by omega)
                  have := Hp.lt_of_get hc
                  omega
              have := D.made_same hdom0 I hi hS hready hm t hit (Nat.le_refl _) x (by omega) (by rw [hb, Hp.n_push]; omega)
              rw [hc, hb, Hp.get_push, if_pos hxi] at this
              rw [Hp.get_push, if_pos (show x = ((st t).2.re (st i).2.n).n from hxi)]
              exact this.symm
            · intro x hx1 hx2 hx3
              rw [hb, Hp.n_push] at hx2
              have hxi : x = (st i).2.n := by omega
              refine ⟨?_, hm, hxi, by rw [hb]; rfl, b, by rw [hb, Hp.get_push, if_pos hxi], by rw [Hp.get_push, if_pos (show x = ((st t).2.re (st i).2.n).n from hxi)]⟩
              rcases Nat.lt_or_ge i t with h | h
              · have := D.len_le (i := i + 1) (j := t) h htle
                rw [hb, Hp.n_push] at this
                omega
              · exact h
          · obtain ⟨hit, hnw⟩ := D.caller_lt I hi hS hready hm
            have hst1 := D.still (i := i) (j := t) (by omega) htle hnw
            have hst2 := D.still (i := i + 1) (j := t) (by omega) htle fun k h1 h2 => hnw k (by omega) h2
            have hlen2 := D.len_le (i := i + 1) (j := t) (by omega) htle
            refine ⟨(st i).2, (st (i + 1)).2, rfl, rfl, fun y b hy => by rw [hst1 y (Hp.lt_of_get hy)]; exact hy, ?_, fun x _ h b hb => by rw [← hst2 x h]; exact hb, fun x _ h h' => by omega⟩
            rw [opA_congr hev]
            cases hq : ao.op <;> rw [hmem, hq] at hm <;> simp only [AOp.mem] at hm <;> try (cases hm; done)
            · rename_i f l r
              cases r with
              | false => simp at hm
              | true => rw [hq] at h2; exact h2
            all_goals rw [hq] at h2; exact h2
        have hRB : Rel E (st (i + 1)).2.n φ B w := I.heap.rel hBget (by rw [hBn]; exact hout)
        refine oper_sound (Nat.le_of_eq hBn') D.call hop I.rel hRB hopB ro _ _ fun v' w' φ' hv hp => ?_
        have hgd : guardA ao.op B B.n = B.n := by unfold guardA; split <;> rfl
        rw [hgd] at hp
        have hall : ∀ b, b < w.heap.size → w'.heap[b]? = w.heap[b]? := fun b hb => hp.frame b hb fun x e hx _ => by
          rcases hout x e hx with h | h
          · exact .inl (by omega)
          · exact .inr (.inl h)
        have hfr : ∀ x e, φ' x = some e → φ x = none → w.heap.size ≤ e.blk := fun x e hx hn =>
          (hp.fresh x e hx hn).resolve_right fun ⟨y, ey, hy, hlo, hl, _⟩ => by have := hout y ey hy; omega
        have hnewr : ∀ x e, φ' x = some e → φ x = none → (st i).2.n ≤ x ∧ x < (st (i + 1)).2.n := fun x e hx hn => by
          rcases hp.dom x e hx with h | h
          · rw [hn] at h; cases h
          · omega
        refine hK φ' _ w' t _ (D.inv_next I ho hao hi hready h3 hv I.tle hbef hbeh I.tw hp.ext (fun x e hx => ?_)
          (D.hold_quiet I hp.ext hall hp.rel.wf (fun x e hx hn => ?_) (fun x y b c ex ey hxy hb hc hx hy hnx hny hrw => ?_)) hp.size
          (fun b hb _ => hall b (Nat.lt_of_lt_of_le hb I.size)) (fun x e hx hn => .inl (hfr x e hx hn)) (fun _ h => h) hp.env)
        · rcases hp.dom x e hx with h | h
          · exact .inl h
          · exact .inr (by omega)
        · obtain ⟨hr1, hr2⟩ := hnewr x e hx hn
          refine ⟨hfr x e hx hn, fun b hb => hp.rel.blk x b e (hnear x hr1 hr2 b hb) hx, fun hge => ?_⟩
          obtain ⟨k1, k2, k3, k4, b, k5, k6⟩ := hfar x hr1 hr2 hge
          refine ⟨k1, hi, k2, k3, b, k5, hp.rel.blk x b e k6 hx, fun y ey hy hny => ?_⟩
          have := hnewr y ey hy hny
          omega
        · obtain ⟨hr1, hr2⟩ := hnewr x ex hx hnx
          obtain ⟨hq1, hq2⟩ := hnewr y ey hy hny
          exact hp.rel.sep x y b c ex ey hxy (hnear x hr1 hr2 b hb) (hnear y hq1 hq2 c hc) hx hy hrw
  ·
    rw [if_neg (by simp [h1])]
    refine ⟨fun f _ => trivial, ?_⟩
    by_cases hwr : writes al i
    · have hit := D.writer_is I hi hS hready hwr
      subst hit
      obtain ⟨t', ht1, ht2, ht3, ht4⟩ := nextWriter (al := al) (n := ops.size) (p := i + 1) (by omega)
      have hchain := D.still ht1 ht2 ht3
      have hpost : Post E (st (i + 1)).2.n φ (st i).2 w g φ (st (i + 1)).2 w := by
        rw [h2]; exact Post.refl (I.heap.rel (fun _ _ h => h) (fun x _ _ => Nat.lt_or_ge x _))
      refine hK φ _ w t' _ (D.inv_next I ho hao hi hready h3 relV_undef ht2 ?_ ?_ ht4 (Ext.refl _) (fun x e hx => .inl hx) (D.hold_write I hpost ht1 ht2 ht3) (Nat.le_refl _) (fun _ _ _ => rfl)
        (fun x e hx hn => by rw [hn] at hx; cases hx) ?_ ⟨rfl, rfl, rfl⟩)
      · intro j hj hwj
        rcases Nat.lt_trichotomy j i with h | h | h
        · exact .inl (I.before j h hwj)
        · exact .inr h
        · exact absurd hwj (ht3 j (by omega) hj)
      · rintro j hj hjl hwj (h | h)
        · exact I.behind j (by omega) hjl hwj h
        · omega
      · rintro x ⟨cs, hcs, hc1⟩
        rw [← h2] at hcs
        exact ⟨cs, by rw [hchain x (Hp.lt_of_get hcs)]; exact hcs, hc1⟩
    · have hnone : ∀ {x e}, φ x = some e → φ x = none → False := fun hx hn => by rw [hn] at hx; cases hx
      refine hK φ _ w t _ (D.inv_next I ho hao hi hready h3 relV_undef I.tle (fun j h1 h2 => .inl (I.before j h1 h2)) ?_ I.tw (Ext.refl _) (fun x e hx => .inl hx)
        (D.hold_quiet I (Ext.refl _) (fun _ _ => rfl) I.heap.wf (fun x e hx hn => (hnone hx hn).elim) (fun x y b c ex ey _ _ _ hx _ hn => (hnone hx hn).elim)) (Nat.le_refl _) (fun _ _ _ => rfl)
        (fun x e hx hn => by rw [hn] at hx; cases hx) (fun _ h => h) ⟨rfl, rfl, rfl⟩)
      rintro j h1 h2 h3 (h | h)
      · exact I.behind j h1 h2 h3 h
      · exact hwr (h ▸ h3)
theorem all_done (hdom0 : ∀ x e, φ0 x = some e → x < (st 0).2.n ∨ lim ≤ x) (I : Inv E nt lim g ops al st φ0 w0 ds S φ a w t TS) (hall : ∀ i, i < ops.size → S i) :
    RelT E.lab φ nt (st ops.size).1 a.tmps ∧ Post E lim φ0 (st 0).2 w0 g φ (st ops.size).2 w ∧ a.defers = ds := by
  have htn : t = ops.size := by
    rcases Nat.lt_or_ge t ops.size with h | h
    · exact absurd (hall t h) (I.behind t (Nat.le_refl _) h (I.tw h))
    · exact Nat.le_antisymm I.tle h
  subst htn
  refine ⟨⟨I.rel.1, fun d => ?_⟩, ⟨I.ext, ?_, D.len_le (Nat.zero_le _) (Nat.le_refl _), I.heap.rel (fun _ _ h => h) ?_, I.size, I.frame, I.fresh, I.ro, I.env⟩, I.defers⟩
  · have hd : tget TS d = tget (st ops.size).1 d := by
      by_cases hex : ∃ j, dstAt al j d
      · obtain ⟨j, hj⟩ := hex
        exact I.done j d (hall j (D.dst_lt hj)) hj
      · rw [I.undone d fun k _ hk => hex ⟨k, hk⟩]
        exact (D.tmp_same (Nat.zero_le _) (Nat.le_refl _) fun k _ _ hk => hex ⟨k, hk⟩).symm
    rw [← hd]; exact I.rel.2 d
  · intro x e hx
    rcases I.new x e hx with h | ⟨k, hk, h1, h2⟩
    · exact .inl h
    · have hkl := I.bound k hk
      have := D.len_le (i := 0) (j := k) (by omega) (by omega)
      have := D.len_le (i := k + 1) (j := ops.size) (by omega) (Nat.le_refl _)
      exact .inr (by omega)
  · intro x e hx
    rcases I.new x e hx with h | ⟨k, hk, h1, h2⟩
    · have := D.len_le (i := 0) (j := ops.size) (by omega) (Nat.le_refl _)
      rcases hdom0 x e h with h | h
      · exact .inl (by omega)
      · exact .inr h
    · have hkl := I.bound k hk
      have := D.len_le (i := k + 1) (j := ops.size) (by omega) (Nat.le_refl _)
      exact .inl (by omega)
theorem any_order (hdom0 : ∀ x e, φ0 x = some e → x < (st 0).2.n ∨ lim ≤ x) (ro : Option Nat) {Q : Exit → Act → World → Prop}
    (hQ : ∀ φ' a' w', RelT E.lab φ' nt (st ops.size).1 a'.tmps → Post E lim φ0 (st 0).2 w0 g φ' (st ops.size).2 w' → a'.defers = ds → Q .normal a' w') :
    ∀ (fuel : Nat) (listed : Array Bool) (φ : NM) (a : Act) (w : World) (t : Nat) (TS : List Value), listed.size = ops.size → ((List.range ops.size).filter fun i => !listed.getD i true).length ≤ fuel →
      Inv E nt lim g ops al st φ0 w0 ds (fun i => i < ops.size ∧ listed.getD i false = true) φ a w t TS → wpAnyIn (fence ro) 0 E.P .any ops Q fuel listed a w := by
  have edge : ∀ (i : Nat) (o : Oper), ops[i]? = some o → ∀ e, e ∈ (ops.toList.map edgesOf).getD i [] ↔ ∃ ed ∈ o.after, Region.binds .any ed = true ∧ ed.on = e := by
    intro i o ho e
    have : (ops.toList.map edgesOf).getD i [] = edgesOf o := by simp [List.getD, ho]
    rw [this]
    simp only [edgesOf, List.mem_map, List.mem_filter, Array.mem_toList_iff]
    constructor
    · rintro ⟨ed, ⟨h1, h2⟩, h3⟩; exact ⟨ed, h1, h2, h3⟩
    · rintro ⟨ed, h1, h2, h3⟩; exact ⟨ed, ⟨h1, h2⟩, h3⟩
  have done : ∀ (listed : Array Bool), listed.size = ops.size → Region.ready .any ops listed = [] → ∀ i, i < ops.size → listed.getD i false = true := by
    intro listed hsz hr i
    induction i using Nat.strongRecOn with
    | _ i ih =>
      intro hi
      cases hl : listed.getD i false with
      | true => rfl
      | false =>
        exfalso
        obtain ⟨o, ao, ho, hao⟩ := D.at_ hi
        have : i ∈ Region.ready .any ops listed := by
          refine mem_ready.2 ⟨?_, o, ho, fun ed hed hb => ?_⟩
          · simp [Array.getD, show i < listed.size by omega] at hl ⊢; exact hl
          · have hlt := D.back hi ed.on ((edge i o ho ed.on).2 ⟨ed, hed, hb, rfl⟩)
            exact ih ed.on hlt (by omega)
        rw [hr] at this; cases this
  intro fuel
  induction fuel with
  | zero =>
    intro listed φ a w t TS hsz hc I
    have hnil : (List.range ops.size).filter (fun i => !listed.getD i true) = [] := List.eq_nil_of_length_eq_zero (by omega)
    have hall : ∀ i, i < ops.size → listed.getD i false = true := by
      intro i hi
      have := List.filter_eq_nil_iff.1 hnil i (List.mem_range.2 hi)
      simp [Array.getD, show i < listed.size by omega] at this ⊢
      exact this
    have hr : Region.ready .any ops listed = [] := by
      cases hrd : Region.ready .any ops listed with
      | nil => rfl
      | cons j l =>
        exfalso
        have hj : j ∈ Region.ready .any ops listed := by rw [hrd]; simp
        obtain ⟨h1, o, ho, _⟩ := mem_ready.1 hj
        have hjl : j < ops.size := (Array.getElem?_eq_some_iff.1 ho).1
        have := hall j hjl
        simp [Array.getD, show j < listed.size by omega] at h1 this
        rw [h1] at this; cases this
    obtain ⟨h1, h2, h3⟩ := D.all_done hdom0 I fun i hi => ⟨hi, hall i hi⟩
    exact ⟨hr, hQ φ a w h1 h2 h3⟩
  | succ fuel ih =>
    intro listed φ a w t TS hsz hc I
    refine ⟨fun hr => ?_, fun i hi => ?_⟩
    · obtain ⟨h1, h2, h3⟩ := D.all_done hdom0 I fun i hi => ⟨hi, done listed hsz hr i hi⟩
      exact hQ φ a w h1 h2 h3
    · obtain ⟨h1, o, ho, h2⟩ := mem_ready.1 hi
      have hil : i < ops.size := (Array.getElem?_eq_some_iff.1 ho).1
      have hli : listed.getD i false = false := by simp [Array.getD, show i < listed.size by omega] at h1 ⊢; exact h1
      refine D.step_ok hdom0 I hil (fun h => by rw [hli] at h; cases h.2) (fun e he => ?_) ro fun φ' a' w' t' TS' I' => ?_
      · obtain ⟨ed, h3, h4, rfl⟩ := (edge i o ho e).1 he
        exact ⟨by have := D.back hil ed.on he; omega, h2 ed h3 h4⟩
      · have hset : ∀ j, j < ops.size → ((listed.setIfInBounds i true).getD j false = true ↔ listed.getD j false = true ∨ j = i) := by
          intro j hj
          simp only [Array.getD_eq_getD_getElem?, Array.getElem?_setIfInBounds]
          by_cases hji : i = j
          · subst hji; simp [show i < listed.size by omega]
          · simp [hji, Ne.symm hji]
        refine ih (listed.setIfInBounds i true) φ' a' w' t' TS' (by simpa using hsz) ?_ ?_
        ·
          have hlt : ((List.range ops.size).filter fun j => !(listed.setIfInBounds i true).getD j true).length < ((List.range ops.size).filter fun j => !listed.getD j true).length := by
            have hsub : ((List.range ops.size).filter fun j => !(listed.setIfInBounds i true).getD j true) = ((List.range ops.size).filter fun j => !listed.getD j true).filter fun j => j != i := by
              rw [List.filter_filter]
              apply List.filter_congr
              intro j hj
              have hj : j < ops.size := by simpa using hj
              simp only [Array.getD_eq_getD_getElem?, Array.getElem?_setIfInBounds]
              by_cases hji : i = j
              · subst hji; simp [show i < listed.size by omega]
              · simp [hji, Ne.symm hji]
            rw [hsub]
            have hmem : i ∈ (List.range ops.size).filter fun j => !listed.getD j true := List.mem_filter.2 ⟨List.mem_range.2 hil, by rw [h1]; rfl⟩
            have hle := List.length_filter_le (fun j => j != i) ((List.range ops.size).filter fun j => !listed.getD j true)
            rcases Nat.lt_or_ge (((List.range ops.size).filter fun j => !listed.getD j true).filter fun j => j != i).length ((List.range ops.size).filter fun j => !listed.getD j true).length with h | h
            · exact h
            · exfalso
              have heq := (List.length_filter_eq_length_iff (p := fun j => j != i) (l := (List.range ops.size).filter fun j => !listed.getD j true)).1 (by omega)
              have := heq i hmem
              simp at this
          omega
        · have hS : (fun k => (k < ops.size ∧ listed.getD k false = true) ∨ k = i) = fun k => k < ops.size ∧ (listed.setIfInBounds i true).getD k false = true := by
            funext k
            apply propext
            constructor
            · rintro (⟨h3, h4⟩ | rfl)
              · exact ⟨h3, (hset k h3).2 (.inl h4)⟩
              · exact ⟨hil, (hset k hil).2 (.inr rfl)⟩
            · rintro ⟨h3, h4⟩
              rcases (hset k h3).1 h4 with h | h
              · exact .inl ⟨h3, h⟩
              · exact .inr h
          rw [hS] at I'
          exact I'
end Draw
theorem drawn_sound {T A T' A'} (hcv : CallSound E cv) (hk : CallKeeps cv) (hf : Formed' E nt ops al) (hok : drawOk al (ops.toList.map edgesOf) = true) (h : opsA cv g al T A = some (T', A')) (hlim : A'.n ≤ lim)
    {φ : NM} {a : Act} {w : World} (hT : RelT E.lab φ nt T a.tmps) (hR : Rel E lim φ A w) (ro : Option Nat) {id : Nat} {Q : Exit → Act → World → Prop}
    (hQ : ∀ φ' a' w', RelT E.lab φ' nt T' a'.tmps → Post E lim φ A w g φ' A' w' → a'.defers = a.defers → Q .normal a' w') : (Code.region id ops true).wpIn (fence ro) 0 E.P Q a w := by
  obtain ⟨st, h0, h1, h2⟩ := opsA_states h
  rw [hf.1] at h1
  have D : Draw E nt lim cv g ops al st := ⟨hcv, hk, hf, h2, hok, by rw [h1]; exact hlim⟩
  refine wpIn_region_any E.mixed ?_
  have hw : Rel E lim φ A { w with drawn := w.drawn + 1 } := ⟨hR.dom, hR.wf, fun x b e hb he => (hR.blk x b e hb he).mono (Ext.refl _) rfl, hR.sep⟩
  obtain ⟨t, _, ht2, ht3, ht4⟩ := nextWriter (al := al) (n := ops.size) (p := 0) (by omega)
  have hst := D.still (Nat.zero_le t) ht2 (fun k _ h => ht3 k (by omega) h)
  have hlen := D.len_le (Nat.zero_le t) ht2
  have hnone : ∀ i : Nat, ¬ (i < ops.size ∧ (Array.replicate ops.size false).getD i false = true) := by
    rintro i ⟨h1, h2⟩
    simp [Array.getD, h1] at h2
  refine D.any_order (φ0 := φ) (w0 := w) (ds := a.defers) (by rw [h0]; exact hR.dom) ro (fun φ' a' w' k1 k2 k3 => hQ φ' a' w' (by rw [h1] at k1; exact k1) (by rw [h0, h1] at k2; exact k2) k3)
    ops.size (Array.replicate ops.size false) φ a _ t T (by simp) (Nat.le_trans (List.length_filter_le _ _) (by simp)) ?_
  refine ⟨ht2, fun j hj hw => absurd hw (ht3 j (by omega) hj), fun j _ _ _ hs => hnone j hs, ht4, fun j hs => hs.1, fun j _ hs => absurd hs (hnone j), fun i d hs => absurd hs (hnone i), fun d _ => by rw [h0], hT, rfl, Ext.refl _,
    fun x e hx => .inl hx, ?_, Nat.le_refl _, fun _ _ _ => rfl, fun x e hx hn => (by rw [hx] at hn; cases hn), ?_, rfl, rfl, rfl⟩
  · rw [h0] at hst hlen
    have hh := hw.heap_mono hlen (Nat.le_trans (D.len_le ht2 (Nat.le_refl _)) D.hlim) hst
    refine ⟨hh.wf, hh.blk, hh.sep, fun x e hx hge hlt => ?_⟩
    exfalso
    have hlen' : A.n ≤ (st t).2.n := hlen
    rcases hR.dom x e hx with h | h <;> omega
  · rintro x ⟨cs, hcs, hc1⟩
    exact ⟨cs, by rw [hst x (Hp.lt_of_get hcs)]; exact hcs, hc1⟩
end
end Go.Ab
